import PyProof.Rows.All
import Wide.All
import OpenK.AllK
import Wide.FinOn
import HandS.ForMost
import HandS.ForExc
import HandS.IsInst
import HandS.Deep
import HandS.Wide
import HandS.Codes
import HandS.TupAny
import HandS.Walk
import HandS.Zip
import HandS.RaiseMore
import HandS.CallSlots
import HandS.Defaults
import HandS.Head0
import HandS.Head1
import HandS.Head2
import HandS.HeadEnd
import HandS.HeadHook1
import HandS.HeadHook2
import HandS.WordsExc
import HandS.EndBits
import HandS.StrMore
import HandS.FStr
import HandS.TupLe
import HandS.Text
import HandS.Star
import HandS.Dict
import HandS.ListItems
import HandS.HeadHook3
import KE.IntTextLaws
import PySem.Challenge.RW_lookedrows_k05_texts_of_conditions
set_option Elab.async false
set_option linter.all false
set_option maxRecDepth 100000
set_option maxHeartbeats 4000000
namespace PD
open PySem PySem.Spec PyProof.Rows L2

/-- plain data -/
inductive D where
  | non | bl (b : Bool) | int (i : Int) | str (cs : List Nat)
  | tup (ds : List D) | lst (ds : List D)
  /-- a dict: keys of one sign or number (false), tuples of such (true) -/
  | dic (t : Bool) (kvs : List (List Key × D))
  | obj (C : Str) (fs : List (Str × D))
  | ref (n : Nat)
  /-- the law's script -/
  | scr (ds : List D)

/-- where one stands: the written part, the module's names, what is not to be touched, the cells' addresses, the heap -/
structure RC where
  K : PySem.W.Frag
  mg : Str → Option Value
  B : Addr → Prop
  ρ : List Addr
  H : Hp

def RC.fr (c : RC) (a : Addr) : Prop := ¬ c.B a ∧ a ∉ c.ρ
abbrev RC.put (c : RC) (p : Addr) (o : HO) : RC := { c with H := upd c.H p o }

/-- a list that stands locked, or in the written part -/
def ScrL (K : PySem.W.Frag) (H : Hp) (a : Addr) (xs : List V) : Prop := (∃ o, H a = some (.frz o (.lst xs))) ∨
    ∃ (o : Obj) (its : Array Value) (n : Nat), K.lookup a = some o ∧ o.cls = .type "list" ∧ o.dict = none ∧ o.data = .seq its n ∧ its.size ≤ sizeLine ∧ Vals xs its.toList
theorem ScrL.sq {K : PySem.W.Frag} {H : Hp} {a : Addr} {xs : List V} (h : ScrL K H a xs) : SqL K H a xs := by
  rcases h with h | h
  · exact .inl (.inr h)
  · exact .inr h
/-- the dict's pairs -/
def isDic (t : Bool) (o : HO) (zs : List (List Key × V)) : Prop := (t = false ∧ ∃ ys : List (Key × V), o = .dK ys ∧ zs = ys.map fun p => ([p.1], p.2)) ∨ (t = true ∧ o = .dT zs)
theorem isDic.tbl {t : Bool} {o : HO} {zs : List (List Key × V)} (h : isDic t o zs) : ∀ ps, o ≠ .tbl ps := fun ps e => by
  subst e
  rcases h with ⟨_, _, e, _⟩ | ⟨_, e⟩ <;> cases e
theorem isDic.tup {t : Bool} {o : HO} {zs : List (List Key × V)} (h : isDic t o zs) : ∀ xs, o ≠ .tup xs := fun ps e => by
  subst e
  rcases h with ⟨_, _, e, _⟩ | ⟨_, e⟩ <;> cases e
theorem isDic.frz {t : Bool} {o : HO} {zs : List (List Key × V)} (h : isDic t o zs) : ∀ a b, o ≠ .frz a b := fun a b e => by
  subst e
  rcases h with ⟨_, _, e, _⟩ | ⟨_, e⟩ <;> cases e
theorem isDic.lst {t : Bool} {o : HO} {zs : List (List Key × V)} (h : isDic t o zs) : ∀ xs, o ≠ .lst xs := fun ps e => by
  subst e
  rcases h with ⟨_, _, e, _⟩ | ⟨_, e⟩ <;> cases e
mutual
inductive Rep (c : RC) : D → V → Prop
  | non : Rep c .non .non
  | bl (b : Bool) : Rep c (.bl b) (.bl b)
  | int (i : Int) : Rep c (.int i) (.int i)
  | str (cs : List Nat) : Rep c (.str cs) (.str ⟨cs.toArray⟩)
  | tup {a : Addr} {ds : List D} {xs : List V} : SqT c.K c.H a xs → Reps c ds xs → Rep c (.tup ds) (.ref a)
  | lst {a : Addr} {ds : List D} {xs : List V} : c.H a = some (.lst xs) → c.fr a → Reps c ds xs → Rep c (.lst ds) (.ref a)
  | scr {a : Addr} {ds : List D} {xs : List V} : ScrL c.K c.H a xs → Reps c ds xs → Rep c (.scr ds) (.ref a)
  | obj {a Ca dx : Addr} {C : Str} {fs : List (Str × D)} {vs : List (Str × V)} : c.mg C = some (.ref Ca) → c.H a = some (.ins Ca dx vs) → c.fr a → RepF c fs vs → Rep c (.obj C fs) (.ref a)
  | ref {n : Nat} {a : Addr} : c.ρ[n]? = some a → Rep c (.ref n) (.ref a)
  | dic {a : Addr} {t : Bool} {o : HO} {kvs : List (List Key × D)} {zs : List (List Key × V)} : c.H a = some o → isDic t o zs → c.fr a → RepP c kvs zs → Rep c (.dic t kvs) (.ref a)
inductive Reps (c : RC) : List D → List V → Prop
  | nil : Reps c [] []
  | cons {d : D} {ds : List D} {v : V} {vs : List V} : Rep c d v → Reps c ds vs → Reps c (d :: ds) (v :: vs)
inductive RepP (c : RC) : List (List Key × D) → List (List Key × V) → Prop
  | nil : RepP c [] []
  | cons {f : List Key} {d : D} {ds : List (List Key × D)} {v : V} {vs : List (List Key × V)} : Rep c d v → RepP c ds vs → RepP c ((f, d) :: ds) ((f, v) :: vs)
inductive RepF (c : RC) : List (Str × D) → List (Str × V) → Prop
  | nil : RepF c [] []
  | cons {f : Str} {d : D} {ds : List (Str × D)} {v : V} {vs : List (Str × V)} : Rep c d v → RepF c ds vs → RepF c ((f, d) :: ds) ((f, v) :: vs)
end

/-- later: what is not a cell stays -/
structure RC.Le (c c' : RC) : Prop where
  K : c'.K = c.K
  mg : c'.mg = c.mg
  B : ∀ a, c.B a → c'.B a
  Bn : ∀ a, c'.B a → c.B a ∨ c.H a = none
  dom : ∀ a o, c.H a = some o → ∃ o', c'.H a = some o'
  pre : ∀ (n : Nat) (a : Addr), c.ρ[n]? = some a → c'.ρ[n]? = some a
  keep : ∀ a o, c.H a = some o → (∀ ps, o ≠ .tbl ps) → a ∉ c.ρ → c'.H a = some o ∧ a ∉ c'.ρ
  tup : ∀ a xs, Rd c.H a (.tup xs) → Rd c'.H a (.tup xs)
  frz : ∀ a o u, c.H a = some (.frz o u) → c'.H a = some (.frz o u)
theorem RC.Le.refl (c : RC) : c.Le c := ⟨rfl, rfl, fun _ h => h, fun _ h => .inl h, fun _ o h => ⟨o, h⟩, fun _ _ h => h, fun _ _ h _ n => ⟨h, n⟩, fun _ _ h => h, fun _ _ _ h => h⟩
theorem RC.Le.trans {a b c : RC} (x : a.Le b) (y : b.Le c) : a.Le c :=
  ⟨y.K.trans x.K, y.mg.trans x.mg, fun p h => y.B p (x.B p h), fun p h => (by
    rcases y.Bn p h with h | h
    · exact x.Bn p h
    · cases q : a.H p with
      | none => exact .inr rfl
      | some o =>
        obtain ⟨o', e⟩ := x.dom p o q
        rw [h] at e
        cases e), fun p o h => let ⟨o', e⟩ := x.dom p o h; y.dom p o' e, fun n p h => y.pre n p (x.pre n p h), fun p o h t n => let ⟨h1, n1⟩ := x.keep p o h t n; y.keep p o h1 t n1, fun p xs h => y.tup p xs (x.tup p xs h), fun p o u h => y.frz p o u (x.frz p o u h)⟩

theorem RC.Le.fr {c c' : RC} (l : c.Le c') {a : Addr} {o : HO} (h : c.H a = some o) (ht : ∀ ps, o ≠ .tbl ps) (f : c.fr a) : c'.fr a :=
  ⟨fun z => (l.Bn a z).elim f.1 fun q => (by rw [h] at q; cases q), (l.keep a o h ht f.2).2⟩
theorem RC.Le.lstH {c c' : RC} (l : c.Le c') {a : Addr} {xs : List V} (h : c.H a = some (.lst xs)) (f : c.fr a) : c'.H a = some (.lst xs) ∧ c'.fr a :=
  ⟨(l.keep a _ h (fun _ z => by cases z) f.2).1, l.fr h (fun _ z => by cases z) f⟩
theorem RC.Le.scrL {c c' : RC} (l : c.Le c') {a : Addr} {xs : List V} (h : ScrL c.K c.H a xs) : ScrL c'.K c'.H a xs := by
  rcases h with ⟨o, h⟩ | h
  · exact .inl ⟨o, l.frz a o _ h⟩
  · rw [l.K]; exact .inr h
theorem RC.Le.sqT {c c' : RC} (l : c.Le c') {a : Addr} {xs : List V} (h : SqT c.K c.H a xs) : SqT c'.K c'.H a xs := by
  rcases h with h | h
  · exact .inl (l.tup a xs h)
  · rw [l.K]; exact .inr h

mutual
theorem Rep.le {c c' : RC} (l : c.Le c') : ∀ {d : D} {v : V}, Rep c d v → Rep c' d v
  | _, _, .non => .non
  | _, _, .bl b => .bl b
  | _, _, .int i => .int i
  | _, _, .str cs => .str cs
  | _, _, .tup h r => .tup (l.sqT h) (Reps.le l r)
  | _, _, .lst h f r => .lst (l.lstH h f).1 (l.lstH h f).2 (Reps.le l r)
  | _, _, .scr h r => .scr (l.scrL h) (Reps.le l r)
  | _, _, .obj m h f r => .obj (by rw [l.mg]; exact m) (l.keep _ _ h (fun _ z => by cases z) f.2).1 (l.fr h (fun _ z => by cases z) f) (RepF.le l r)
  | _, _, .ref h => .ref (l.pre _ _ h)
  | _, _, .dic h i f r => .dic (l.keep _ _ h i.tbl f.2).1 i (l.fr h i.tbl f) (RepP.le l r)
theorem Reps.le {c c' : RC} (l : c.Le c') : ∀ {ds : List D} {vs : List V}, Reps c ds vs → Reps c' ds vs
  | _, _, .nil => .nil
  | _, _, .cons h t => .cons (Rep.le l h) (Reps.le l t)
theorem RepP.le {c c' : RC} (l : c.Le c') : ∀ {ds : List (List Key × D)} {vs : List (List Key × V)}, RepP c ds vs → RepP c' ds vs
  | _, _, .nil => .nil
  | _, _, .cons h t => .cons (Rep.le l h) (RepP.le l t)
theorem RepF.le {c c' : RC} (l : c.Le c') : ∀ {ds : List (Str × D)} {vs : List (Str × V)}, RepF c ds vs → RepF c' ds vs
  | _, _, .nil => .nil
  | _, _, .cons h t => .cons (Rep.le l h) (RepF.le l t)
end

theorem Reps.length {c : RC} : ∀ {ds : List D} {vs : List V}, Reps c ds vs → ds.length = vs.length
  | _, _, .nil => rfl
  | _, _, .cons _ t => by rw [List.length_cons, List.length_cons, t.length]
theorem Reps.get {c : RC} : ∀ {ds : List D} {vs : List V} {i : Nat} {d : D}, Reps c ds vs → ds[i]? = some d → ∃ v, vs[i]? = some v ∧ Rep c d v
  | _, _, _, _, .nil, e => by simp at e
  | _, _, 0, d, .cons h _, e => by simp at e; subst e; exact ⟨_, rfl, h⟩
  | _, _, i + 1, d, .cons _ t, e => by
    obtain ⟨v, h1, h2⟩ := Reps.get (i := i) t (by simpa using e)
    exact ⟨v, by simpa using h1, h2⟩
theorem Reps.getV {c : RC} : ∀ {ds : List D} {vs : List V} {i : Nat} {v : V}, Reps c ds vs → vs[i]? = some v → ∃ d, ds[i]? = some d ∧ Rep c d v
  | _, _, _, _, .nil, e => by simp at e
  | _, _, 0, d, .cons h _, e => by simp at e; subst e; exact ⟨_, rfl, h⟩
  | _, _, i + 1, d, .cons _ t, e => by
    obtain ⟨v, h1, h2⟩ := Reps.getV (i := i) t (by simpa using e)
    exact ⟨v, by simpa using h1, h2⟩
theorem Reps.append {c : RC} : ∀ {ds es : List D} {vs us : List V}, Reps c ds vs → Reps c es us → Reps c (ds ++ es) (vs ++ us)
  | _, _, _, _, .nil, s => s
  | _, _, _, _, .cons h t, s => .cons h (t.append s)
theorem Reps.take {c : RC} : ∀ {ds : List D} {vs : List V} (n : Nat), Reps c ds vs → Reps c (ds.take n) (vs.take n)
  | _, _, 0, _ => .nil
  | _, _, _ + 1, .nil => .nil
  | _, _, n + 1, .cons h t => .cons h (t.take n)
theorem Reps.drop {c : RC} : ∀ {ds : List D} {vs : List V} (n : Nat), Reps c ds vs → Reps c (ds.drop n) (vs.drop n)
  | _, _, 0, r => r
  | _, _, _ + 1, .nil => .nil
  | _, _, n + 1, .cons _ t => t.drop n
theorem Reps.set {c : RC} {d : D} {v : V} (r : Rep c d v) : ∀ {ds : List D} {vs : List V} (n : Nat), Reps c ds vs → Reps c (ds.set n d) (vs.set n v)
  | _, _, _, .nil => .nil
  | _, _, 0, .cons _ t => .cons r t
  | _, _, n + 1, .cons h t => .cons h (t.set r n)
theorem RepF.look {c : RC} {f : Str} : ∀ {ds : List (Str × D)} {vs : List (Str × V)} {d : D}, RepF c ds vs → ds.lookup f = some d → ∃ v, vs.lookup f = some v ∧ Rep c d v
  | _, _, _, .nil, e => by simp at e
  | _, _, d, .cons (f := g) h t, e => by
    rw [List.lookup_cons] at e ⊢
    cases q : f == g with
    | true => rw [q] at e; cases e; exact ⟨_, rfl, h⟩
    | false => rw [q] at e; exact t.look e
theorem RepF.lookN {c : RC} {f : Str} : ∀ {ds : List (Str × D)} {vs : List (Str × V)}, RepF c ds vs → ds.lookup f = none → vs.lookup f = none
  | _, _, .nil, e => by simp
  | _, _, .cons (f := g) h t, e => by
    rw [List.lookup_cons] at e ⊢
    cases q : f == g with
    | true => rw [q] at e; cases e
    | false => rw [q] at e; exact t.lookN e
theorem RepF.length {c : RC} : ∀ {ds : List (Str × D)} {vs : List (Str × V)}, RepF c ds vs → ds.length = vs.length
  | _, _, .nil => rfl
  | _, _, .cons _ t => by rw [List.length_cons, List.length_cons, t.length]
/-- a field is stored -/
def putD (f : Str) (d : D) : List (Str × D) → List (Str × D)
  | [] => [(f, d)]
  | (g, e) :: r => if g = f then (g, d) :: r else (g, e) :: putD f d r

/-! ### cells -/
inductive Cell where
  | lst (ds : List D)
  | dic (t : Bool) (kvs : List (List Key × D))
  | obj (C : Str) (fs : List (Str × D))
abbrev EH := List Cell
def CellR (c : RC) : Cell → Addr → Prop
  | .lst ds, a => ∃ xs, c.H a = some (.lst xs) ∧ Reps c ds xs
  | .dic t kvs, a => ∃ o zs, c.H a = some o ∧ isDic t o zs ∧ RepP c kvs zs
  | .obj C fs, a => ∃ Ca dx vs, c.mg C = some (.ref Ca) ∧ c.H a = some (.ins Ca dx vs) ∧ RepF c fs vs
structure SR (c : RC) (h : EH) : Prop where
  len : c.ρ.length = h.length
  nd : c.ρ.Nodup
  cells : ∀ (n : Nat) (a : Addr) (k : Cell), c.ρ[n]? = some a → h[n]? = some k → CellR c k a
  nb : ∀ a ∈ c.ρ, ¬ c.B a
  bt : ∀ a, c.B a → ∃ o, c.H a = some o
theorem CellR.le {c c' : RC} (l : c.Le c') {k : Cell} {a : Addr} (h : c'.H a = c.H a) (r : CellR c k a) : CellR c' k a := by
  cases k with
  | lst ds => obtain ⟨xs, e, q⟩ := r; exact ⟨xs, h.trans e, q.le l⟩
  | dic t kvs => obtain ⟨o, zs, e, i, q⟩ := r; exact ⟨o, zs, h.trans e, i, q.le l⟩
  | obj C fs => obtain ⟨Ca, dx, vs, m, e, q⟩ := r; exact ⟨Ca, dx, vs, by rw [l.mg]; exact m, h.trans e, q.le l⟩
theorem CellR.ex {c : RC} {k : Cell} {a : Addr} (r : CellR c k a) : ∃ o, c.H a = some o := by
  cases k with
  | lst ds => obtain ⟨xs, e, q⟩ := r; exact ⟨_, e⟩
  | dic t kvs => obtain ⟨o, zs, e, i, q⟩ := r; exact ⟨_, e⟩
  | obj C fs => obtain ⟨Ca, dx, vs, m, e, q⟩ := r; exact ⟨_, e⟩
theorem SR.ex {c : RC} {h : EH} (s : SR c h) {a : Addr} (ha : a ∈ c.ρ) : ∃ o, c.H a = some o := by
  obtain ⟨n, hn, e⟩ := List.mem_iff_getElem.mp ha
  have h1 : c.ρ[n]? = some a := by rw [List.getElem?_eq_getElem hn, e]
  have hn' : n < h.length := by rw [← s.len]; exact hn
  exact (s.cells n a _ h1 (List.getElem?_eq_getElem hn')).ex
/-- a new object -/
theorem SR.new {c : RC} {h : EH} {p : Addr} {o : HO} (s : SR c h) (hp : c.H p = none) : c.Le (c.put p o) ∧ SR (c.put p o) h ∧ (c.put p o).fr p := by
  have np : p ∉ c.ρ := fun z => by
    obtain ⟨o, e⟩ := s.ex z
    rw [hp] at e; cases e
  have ne : ∀ a o, c.H a = some o → a ≠ p := fun a o e z => by rw [z, hp] at e; cases e
  have l : c.Le (c.put p o) := by
    refine ⟨rfl, rfl, fun _ h => h, fun _ h => .inl h, fun a u e => ⟨u, (upd_ne (ne a u e)).trans e⟩, fun _ _ h => h, fun a u e _ n => ⟨(upd_ne (ne a u e)).trans e, n⟩, fun a xs e => ?_, fun a o u e => (upd_ne (ne a _ e)).trans e⟩
    rcases e with e | ⟨u, e⟩
    · exact .inl ((upd_ne (ne a _ e)).trans e)
    · exact .inr ⟨u, (upd_ne (ne a _ e)).trans e⟩
  refine ⟨l, ⟨s.len, s.nd, fun n a k e1 e2 => ?_, s.nb, fun a b => ?_⟩, fun b => ?_, np⟩
  · have r := s.cells n a k e1 e2
    obtain ⟨u, e⟩ := r.ex
    exact r.le l (upd_ne (ne a u e))
  · obtain ⟨u, e⟩ := s.bt a b
    exact ⟨u, (upd_ne (ne a u e)).trans e⟩
  · obtain ⟨u, e⟩ := s.bt p b
    rw [hp] at e; cases e
/-- the cell n is written -/
theorem SR.write {c : RC} {h : EH} {n : Nat} {a : Addr} {o : HO} {k : Cell} (s : SR c h) (hn : c.ρ[n]? = some a) (hnt : ∀ xs, ¬ Rd c.H a (.tup xs)) (hnf : ∀ o u, c.H a ≠ some (.frz o u)) (hk : ∀ c', c.Le c' → c'.H a = some o → CellR c' k a) :
    c.Le (c.put a o) ∧ SR (c.put a o) (h.set n k) := by
  have ha : a ∈ c.ρ := List.mem_of_getElem? hn
  have l : c.Le (c.put a o) := by
    refine ⟨rfl, rfl, fun _ h => h, fun _ h => .inl h, fun b u e => ?_, fun _ _ h => h, fun b u e _ nb => ⟨?_, nb⟩, fun b xs e => ?_, fun b o u e => (upd_ne (show b ≠ a from fun z => hnf o u (by rw [← z]; exact e))).trans e⟩
    · by_cases z : b = a
      · exact ⟨o, by rw [z]; exact upd_same⟩
      · exact ⟨u, (upd_ne z).trans e⟩
    · exact (upd_ne (show b ≠ a from fun z => nb (by rw [z]; exact ha))).trans e
    · have nb : b ≠ a := fun z => hnt xs (z ▸ e)
      rcases e with e | ⟨u, e⟩
      · exact .inl ((upd_ne nb).trans e)
      · exact .inr ⟨u, (upd_ne nb).trans e⟩
  refine ⟨l, ⟨by rw [List.length_set]; exact s.len, s.nd, fun m b k' e1 e2 => ?_, s.nb, fun b hb => ?_⟩⟩
  · by_cases hm : m = n
    · subst hm
      have : b = a := by
        have e1' : c.ρ[m]? = some b := e1
        rw [hn] at e1'
        exact (Option.some.inj e1').symm
      subst this
      have hlt : m < h.length := by
        rw [← s.len]; exact (List.getElem?_eq_some_iff.mp hn).1
      rw [List.getElem?_set_self hlt] at e2
      cases e2
      exact hk _ l upd_same
    · rw [List.getElem?_set_ne (Ne.symm hm)] at e2
      have nb : b ≠ a := fun z => hm (by
        subst z
        obtain ⟨h1, e1'⟩ := List.getElem?_eq_some_iff.mp e1
        obtain ⟨h2, e2'⟩ := List.getElem?_eq_some_iff.mp hn
        exact (List.getElem_inj s.nd).mp (e1'.trans e2'.symm))
      exact (s.cells m b k' e1 e2).le l (upd_ne nb)
  · obtain ⟨u, e⟩ := s.bt b hb
    exact ⟨u, (upd_ne (show b ≠ a from fun z => s.nb a ha (by rw [← z]; exact hb))).trans e⟩

/-! ### environments -/
abbrev Ev := List (Option D)
structure EnvR (c : RC) (ε : Ev) (σ : L2.St) : Prop where
  len : ε.length = σ.length
  at_ : ∀ (i : Nat) (d : D), ε[i]? = some (some d) → ∃ v, σ[i]? = some (some v) ∧ Rep c d v
theorem EnvR.le {c c' : RC} (l : c.Le c') {ε : Ev} {σ : L2.St} (r : EnvR c ε σ) : EnvR c' ε σ :=
  ⟨r.len, fun i d e => let ⟨v, h1, h2⟩ := r.at_ i d e; ⟨v, h1, h2.le l⟩⟩
theorem EnvR.set {c : RC} {ε : Ev} {σ : L2.St} (r : EnvR c ε σ) {d : D} {v : V} (rv : Rep c d v) (i : Nat) : EnvR c (ε.set i (some d)) (σ.set i (some v)) := by
  refine ⟨by rw [List.length_set, List.length_set]; exact r.len, fun j e h => ?_⟩
  by_cases hj : i = j
  · subst hj
    have hi : i < ε.length := by
      have := (List.getElem?_eq_some_iff.mp h).1
      rwa [List.length_set] at this
    rw [List.getElem?_set_self hi] at h
    cases h
    exact ⟨v, by rw [List.getElem?_set_self (by rw [← r.len]; exact hi)], rv⟩
  · rw [List.getElem?_set_ne hj] at h
    obtain ⟨w, h1, h2⟩ := r.at_ j e h
    exact ⟨w, by rw [List.getElem?_set_ne hj]; exact h1, h2⟩
end PD

namespace PD
open PySem PySem.Spec PyProof.Rows L2

/-! ### results -/
structure Ex where
  cls : Str
  fs : List (Str × D)
inductive R (α : Type) where
  | ok (a : α)
  | ex (e : Ex)
abbrev O (α : Type) := Option (R α × EH)
def ExR (c : RC) (e : Ex) (cls : Value) (dx : Option Addr) : Prop := ∃ Ca d vs, cls = .ref Ca ∧ c.mg e.cls = some (.ref Ca) ∧ dx = some d ∧ c.H d = some (.xd vs) ∧ c.fr d ∧ RepF c e.fs vs
def bR {α β : Type} (x : O α) (f : α → EH → O β) : O β := match x with
  | some (.ok a, h) => f a h
  | some (.ex e, h) => some (.ex e, h)
  | none => none
theorem bR_ok {α β : Type} (a : α) (h : EH) (f : α → EH → O β) : bR (some (.ok a, h)) f = f a h := (rfl)
theorem bR_ex {α β : Type} (e : Ex) (h : EH) (f : α → EH → O β) : bR (some (.ex e, h)) f = some (.ex e, h) := (rfl)
theorem bR_none {α β : Type} (f : α → EH → O β) : bR none f = none := rfl
/-- a value, the cells as they are -/
def rt {α : Type} (x : Option α) (h : EH) : O α := match x with
  | some a => some (.ok a, h)
  | none => none
theorem rt_some {α : Type} (a : α) (h : EH) : rt (some a) h = some (.ok a, h) := (rfl)
theorem rt_none {α : Type} (h : EH) : rt (none : Option α) h = none := rfl

abbrev M (α : Type) := Ev → EH → O α

/-- what is wanted of an exception -/
def Px {α : Type} (W : WX) (c : RC) (σ : L2.St) (r : R α) (h' : EH) : Prop := ∀ x, r = .ex x → ∀ c' cls dx, c.Le c' → SR c' h' → ExR c' x cls dx → W cls dx σ c'.H
theorem Px.le {α : Type} {W : WX} {c c1 : RC} {σ : L2.St} {r : R α} {h' : EH} (p : Px W c σ r h') (l : c.Le c1) : Px W c1 σ r h' := fun x e c' cls dx l' s q => p x e c' cls dx (l.trans l') s q
theorem Px.ok {α : Type} {W : WX} {c : RC} {σ : L2.St} {a : α} {h' : EH} : Px W c σ (.ok a) h' := fun _ e => nomatch e

/-- the reading of a mirror -/
def tX {α β : Type} (Rl : RC → α → β → Prop) (K : PySem.W.Frag) (mg : Str → Option Value) (W : WX) (m : M α) : L2.St → Hp → (β → Hp → Prop) → Prop := fun σ H Q =>
  ∃ (c : RC) (ε : Ev) (h : EH) (r : R α) (h' : EH), c.K = K ∧ c.mg = mg ∧ c.H = H ∧ SR c h ∧ EnvR c ε σ ∧ m ε h = some (r, h') ∧ Px W c σ r h' ∧
    ∀ a, r = .ok a → ∀ c' b, c.Le c' → SR c' h' → Rl c' a b → Q b c'.H
theorem tX.bind {α β γ : Type} {Rl : RC → α → β → Prop} {K : PySem.W.Frag} {mg : Str → Option Value} {W : WX} {m : M α} {k : α → EH → O γ} {c : RC} {ε : Ev} {h h' : EH} {r : R γ} {σ : L2.St} {Q : β → Hp → Prop}
    (hK : c.K = K) (hm : c.mg = mg) (sr : SR c h) (er : EnvR c ε σ) (e : bR (m ε h) k = some (r, h')) (px : Px W c σ r h')
    (go : ∀ a h1 c1 b, k a h1 = some (r, h') → c.Le c1 → SR c1 h1 → Rl c1 a b → Q b c1.H) : tX Rl K mg W m σ c.H Q := by
  cases q : m ε h with
  | none => rw [q] at e; cases e
  | some z =>
    obtain ⟨r1, h1⟩ := z
    cases r1 with
    | ok a =>
      rw [q] at e
      exact ⟨c, ε, h, .ok a, h1, hK, hm, rfl, sr, er, q, Px.ok, fun a' ea c1 b l s rb => by cases ea; exact go a h1 c1 b e l s rb⟩
    | ex x =>
      rw [q] at e
      cases e
      exact ⟨c, ε, h, .ex x, _, hK, hm, rfl, sr, er, q, fun y ey => px y (by cases ey; rfl), fun a' ea => nomatch ea⟩
/-- the last step -/
theorem tX.last {α β : Type} {Rl : RC → α → β → Prop} {K : PySem.W.Frag} {mg : Str → Option Value} {W : WX} {m : M α} {c : RC} {ε : Ev} {h h' : EH} {r : R α} {σ : L2.St} {Q : β → Hp → Prop}
    (hK : c.K = K) (hm : c.mg = mg) (sr : SR c h) (er : EnvR c ε σ) (e : m ε h = some (r, h')) (px : Px W c σ r h')
    (go : ∀ a, r = .ok a → ∀ c' b, c.Le c' → SR c' h' → Rl c' a b → Q b c'.H) : tX Rl K mg W m σ c.H Q := ⟨c, ε, h, r, h', hK, hm, rfl, sr, er, e, px, go⟩

abbrev tE := tX Rep
abbrev tT := tX (fun (_ : RC) (a b : Bool) => a = b)
abbrev tA := tX Reps
abbrev RE (X : Cx) (W : WX) (e : Expr) (m : M D) : Prop := PE X e (tE X.K X.mg W m)
abbrev RT (X : Cx) (W : WX) (e : Expr) (m : M Bool) : Prop := PT X e (tT X.K X.mg W m)
abbrev RW (X : Cx) (W : WX) (e : Expr) (m : M Bool) : Prop := PW X e (tT X.K X.mg W m)
abbrev RA (X : Cx) (W : WX) (es : List Expr) (m : M (List D)) : Prop := PA X es (tA X.K X.mg W m)

theorem pe_imp {X : Cx} {e : Expr} {t t' : TE} (h : PE X e t) (k : ∀ σ H Q, t' σ H Q → t σ H Q) : PE X e t' := ⟨fun pins s σ H Q I q => h.run pins s σ H Q I (k σ H Q q)⟩
theorem pt_imp {X : Cx} {e : Expr} {t t' : TT} (h : PT X e t) (k : ∀ σ H Q, t' σ H Q → t σ H Q) : PT X e t' := ⟨fun pins s σ H Q I q => h.run pins s σ H Q I (k σ H Q q)⟩
theorem pw_imp {X : Cx} {e : Expr} {t t' : TT} (h : PW X e t) (k : ∀ σ H Q, t' σ H Q → t σ H Q) : PW X e t' := ⟨fun wh pins s σ H Q I q => h.run wh pins s σ H Q I (k σ H Q q)⟩
theorem pa_imp {X : Cx} {es : List Expr} {t t' : TA} (h : PA X es t) (k : ∀ σ H Q, t' σ H Q → t σ H Q) : PA X es t' := ⟨fun pos pins s σ H Q I q => h.run pos pins s σ H Q I (k σ H Q q)⟩

/-! ### names, constants -/
def mVar (i : Nat) : M D := fun ε h => rt (ε.getD i none) h
def mC (d : D) : M D := fun _ h => some (.ok d, h)
section
variable {X : Cx} {W : WX}
theorem re_var (i : Nat) {x : Str} {pos : Pos} (hN : X.N[i]? = some x := by rfl) (hv : Vis X.env.scope x := by first | exact Or.inl rfl | exact Or.inr (Or.inl rfl) | exact Or.inr (Or.inr rfl)) (hd : (x == ("__debug__" : Str)) = false := by decide)
    (hcd : (x == ("__classdict__" : Str)) = false := by decide) : RE X W (.Name x pos) (mVar i) := by
  refine pe_imp (pe_var hN hv hd hcd) fun σ H Q h => ?_
  obtain ⟨c, ε, h, r, h', hK, hm, rfl, sr, er, e, px, go⟩ := h
  cases q : ε.getD i none with
  | none => rw [mVar, q] at e; cases e
  | some d =>
    rw [mVar, q] at e
    cases e
    have q2 : ε[i]? = some (some d) := by
      rw [List.getD_eq_getElem?_getD] at q
      cases z : ε[i]? with
      | none => rw [z] at q; cases q
      | some y => rw [z] at q; exact congrArg some q
    obtain ⟨v, h1, h2⟩ := er.at_ i d q2
    exact ⟨v, h1, go d rfl c v (.refl c) sr h2⟩
theorem re_c {e : Expr} {d : D} {v : V} (h : PE X e (tC v)) (r : ∀ c : RC, c.K = X.K → c.mg = X.mg → Rep c d v) : RE X W e (mC d) := by
  refine pe_imp h fun σ H Q h => ?_
  obtain ⟨c, ε, h, r', h', hK, hm, rfl, sr, er, e, px, go⟩ := h
  cases e
  exact go d rfl c v (.refl c) sr (r c hK hm)
theorem re_int {i j pos} : RE X W (.Constant (.int i) j pos) (mC (.int i)) := re_c pe_int fun _ _ _ => .int i
theorem re_bl {b j pos} : RE X W (.Constant (.bool b) j pos) (mC (.bl b)) := re_c pe_bl fun _ _ _ => .bl b
theorem re_non {j pos} : RE X W (.Constant .none j pos) (mC .non) := re_c pe_non fun _ _ _ => .non
theorem re_str (cs : List Nat) {x j pos} (e : x.cps.toList = cs := by decide +kernel) : RE X W (.Constant (.str x) j pos) (mC (.str cs)) := re_c pe_str fun _ _ _ => by
  subst e
  exact .str x.cps.toList
/-- a constant of the module -/
def GlobC (K : PySem.W.Frag) (mg : Str → Option Value) (x : Str) (d : D) : Prop := ∃ u v, mg x = some u ∧ RelV v u ∧ ∀ c : RC, c.K = K → c.mg = mg → Rep c d v
theorem re_glob {x : Str} {d : D} {pos : Pos} (g : GlobC X.K X.mg x d) (hg : Gl X x := by rfl) (hd : (x == ("__debug__" : Str)) = false := by decide) : RE X W (.Name x pos) (mC d) := by
  obtain ⟨u, v, hm, r, rp⟩ := g
  exact re_c (pe_glob hg hm r hd) rp

/-! ### two-place operations -/
def OpS (K : PySem.W.Frag) (mg : Str → Option Value) (r : R2) (f : EH → D → D → Option D) : Prop := ∀ (c : RC) (h : EH) (x y : V) (dx dy d : D) (Q : VK), c.K = K → c.mg = mg → SR c h → Rep c dx x → Rep c dy y → f h dx dy = some d →
  (∀ c' v, c.Le c' → SR c' h → Rep c' d v → Q v c'.H) → r x y c.H Q
def mBin (f : EH → D → D → Option D) (a b : M D) : M D := fun ε h => bR (a ε h) fun x h1 => bR (b ε h1) fun y h2 => rt (f h2 x y) h2
theorem top_of {K : PySem.W.Frag} {mg : Str → Option Value} {r : R2} {f : EH → D → D → Option D} {a b : M D} (hs : OpS K mg r f) {σ : L2.St} {H : Hp} {Q : VK} (h : tE K mg W (mBin f a b) σ H Q) : tOp r (tE K mg W a) (tE K mg W b) σ H Q := by
  obtain ⟨c, ε, h, r', h', hK, hm, rfl, sr, er, e, px, go⟩ := h
  unfold tOp
  refine tX.bind hK hm sr er e px fun dx h1 c1 x e1 l1 s1 r1 => ?_
  refine tX.bind (l1.K.trans hK) (l1.mg.trans hm) s1 (er.le l1) e1 (px.le l1) fun dy h2 c2 y e2 l2 s2 r2 => ?_
  cases q : f h2 dx dy with
  | none => rw [q] at e2; cases e2
  | some d =>
    rw [q] at e2
    cases e2
    exact hs c2 _ x y dx dy d Q ((l2.K.trans l1.K).trans hK) ((l2.mg.trans l1.mg).trans hm) s2 (r1.le l2) r2 q fun c' v l3 s3 r3 => go d rfl c' v ((l1.trans l2).trans l3) s3 r3
theorem re_bin {op : Operator} {r : R2} {f : EH → D → D → Option D} {a b : Expr} {ma mb : M D} {pos : Pos} (ho : OpR X (binaryOp op) r) (hs : OpS X.K X.mg r f) (ha : RE X W a ma) (hb : RE X W b mb) : RE X W (.BinOp a op b pos) (mBin f ma mb) :=
  pe_imp (pe_op ho ha hb) fun _ _ _ h => top_of hs h
theorem re_cmp {op : CmpOp} {r : R2} {f : EH → D → D → Option D} {a b : Expr} {ma mb : M D} {pos : Pos} (ho : OpR X (compareOp op) r) (hs : OpS X.K X.mg r f) (ha : RE X W a ma) (hb : RE X W b mb) (hmk : behindInMarks op b = false) : RE X W (.Compare a [op] [b] pos) (mBin f ma mb) :=
  pe_imp (pe_cmpR ho ha hb hmk) fun _ _ _ h => top_of hs h
/-- a bool as a test -/
def asB (d : D) : Option Bool := match d with
  | .bl b => some b
  | _ => none
def mTst (m : M D) : M Bool := fun ε h => bR (m ε h) fun x h1 => rt (asB x) h1
theorem tB_of {K : PySem.W.Frag} {mg : Str → Option Value} {m : M D} {σ : L2.St} {H : Hp} {Q : Bool → Hp → Prop} (h : tT K mg W (mTst m) σ H Q) : tE K mg W m σ H fun x H1 => ∃ c, x = .bl c ∧ Q c H1 := by
  obtain ⟨c, ε, h, r', h', hK, hm, rfl, sr, er, e, px, go⟩ := h
  refine tX.bind hK hm sr er e px fun dx h1 c1 x e1 l1 s1 r1 => ?_
  cases r1 with
  | bl b => cases e1; exact ⟨b, rfl, go b rfl c1 b l1 s1 rfl⟩
  | _ => cases e1
theorem tx_imp {α β : Type} {Rl : RC → α → β → Prop} {K : PySem.W.Frag} {mg : Str → Option Value} {m : M α} {σ : L2.St} {H : Hp} {Q Q' : β → Hp → Prop} (h : tX Rl K mg W m σ H Q) (k : ∀ b H, Q b H → Q' b H) : tX Rl K mg W m σ H Q' := by
  obtain ⟨c, ε, h, r', h', hK, hm, rfl, sr, er, e, px, go⟩ := h
  exact ⟨c, ε, h, r', h', hK, hm, rfl, sr, er, e, px, fun a ea c' b l s r => k _ _ (go a ea c' b l s r)⟩
theorem rt_cmp {op : CmpOp} {r : R2} {f : EH → D → D → Option D} {a b : Expr} {ma mb : M D} {pos : Pos} (ho : OpR X (compareOp op) r) (hs : OpS X.K X.mg r f) (ha : RE X W a ma) (hb : RE X W b mb) (hmk : behindInMarks op b = false) : RT X W (.Compare a [op] [b] pos) (mTst (mBin f ma mb)) :=
  pt_imp (pt_cmpR ho ha hb hmk) fun σ H Q h => top_of hs (tB_of h)
theorem rt_val {e : Expr} {m : M D} (h : RE X W e m) (he : ∀ whole, isTrue e X.env whole = (do let v ← whole; standAt e.pos; holding [v] (truthy v)) := by intro _; rfl) : RT X W e (mTst m) :=
  pt_imp (pt_val h he) fun σ H Q h => tB_of h

/-! ### not, and, or, if -/
def mNot (a : M Bool) : M Bool := fun ε h => bR (a ε h) fun b h1 => some (.ok (!b), h1)
def mAnd (a b : M Bool) : M Bool := fun ε h => bR (a ε h) fun x h1 => if x = true then b ε h1 else some (.ok false, h1)
def mOr (a b : M Bool) : M Bool := fun ε h => bR (a ε h) fun x h1 => if x = true then some (.ok true, h1) else b ε h1
def mIf {α : Type} (t : M Bool) (a b : M α) : M α := fun ε h => bR (t ε h) fun x h1 => if x = true then a ε h1 else b ε h1
theorem rt_not {a : Expr} {ma : M Bool} {pos : Pos} (ha : RT X W a ma) : RT X W (.UnaryOp .Not a pos) (mNot ma) := by
  refine pt_imp (pt_not ha) fun σ H Q h => ?_
  obtain ⟨c, ε, h, r', h', hK, hm, rfl, sr, er, e, px, go⟩ := h
  unfold tNot
  refine tX.bind hK hm sr er e px fun x h1 c1 b e1 l1 s1 r1 => ?_
  cases e1
  subst r1
  exact go _ rfl c1 _ l1 s1 rfl
theorem rw_and1 {a : Expr} {ma : M Bool} {pos : Pos} (ha : RT X W a ma) : RW X W (.BoolOp .And [a] pos) ma := pw_and1 ha
theorem rw_or1 {a : Expr} {ma : M Bool} {pos : Pos} (ha : RT X W a ma) : RW X W (.BoolOp .Or [a] pos) ma := pw_or1 ha
theorem rw_and {a b : Expr} {rest : List Expr} {ma mb : M Bool} {pos : Pos} (ha : RT X W a ma) (hb : RW X W (.BoolOp .And (b :: rest) pos) mb) : RW X W (.BoolOp .And (a :: b :: rest) pos) (mAnd ma mb) := by
  refine pw_imp (pw_and ha hb) fun σ H Q h => ?_
  obtain ⟨c, ε, h, r', h', hK, hm, rfl, sr, er, e, px, go⟩ := h
  unfold tAnd
  refine tX.bind hK hm sr er e px fun x h1 c1 b e1 l1 s1 r1 => ?_
  subst r1
  cases x with
  | true => exact tX.last (l1.K.trans hK) (l1.mg.trans hm) s1 (er.le l1) e1 (px.le l1) fun a ea c' b l s r => go a ea c' b (l1.trans l) s r
  | false => cases e1; exact go _ rfl c1 _ l1 s1 rfl
theorem rw_or {a b : Expr} {rest : List Expr} {ma mb : M Bool} {pos : Pos} (ha : RT X W a ma) (hb : RW X W (.BoolOp .Or (b :: rest) pos) mb) : RW X W (.BoolOp .Or (a :: b :: rest) pos) (mOr ma mb) := by
  refine pw_imp (pw_or ha hb) fun σ H Q h => ?_
  obtain ⟨c, ε, h, r', h', hK, hm, rfl, sr, er, e, px, go⟩ := h
  unfold tOr
  refine tX.bind hK hm sr er e px fun x h1 c1 b e1 l1 s1 r1 => ?_
  subst r1
  cases x with
  | false => exact tX.last (l1.K.trans hK) (l1.mg.trans hm) s1 (er.le l1) e1 (px.le l1) fun a ea c' b l s r => go a ea c' b (l1.trans l) s r
  | true => cases e1; exact go _ rfl c1 _ l1 s1 rfl
theorem rt_bool {e : Expr} {m : M Bool} (h : RW X W e m) : RT X W e m := PW.pt h
/-- .. as values -/
def mAndV (a b : M D) : M D := fun ε h => bR (a ε h) fun x h1 => match x with
  | .bl true => b ε h1
  | .bl false => some (.ok (.bl false), h1)
  | _ => none
def mOrV (a b : M D) : M D := fun ε h => bR (a ε h) fun x h1 => match x with
  | .bl true => some (.ok (.bl true), h1)
  | .bl false => b ε h1
  | _ => none
def mNotV (a : M D) : M D := fun ε h => bR (a ε h) fun x h1 => match x with
  | .bl b => some (.ok (.bl (!b)), h1)
  | _ => none
theorem re_one {op} {a : Expr} {ma : M D} {pos : Pos} (ha : RE X W a ma) : RE X W (.BoolOp op [a] pos) ma := pe_one ha
theorem re_and {a b : Expr} {rest : List Expr} {ma mb : M D} {pos : Pos} (ha : RE X W a ma) (hb : RE X W (.BoolOp .And (b :: rest) pos) mb) : RE X W (.BoolOp .And (a :: b :: rest) pos) (mAndV ma mb) := by
  refine pe_imp (pe_and ha hb) fun σ H Q h => ?_
  obtain ⟨c, ε, h, r', h', hK, hm, rfl, sr, er, e, px, go⟩ := h
  unfold tAndV
  refine tX.bind hK hm sr er e px fun x h1 c1 b e1 l1 s1 r1 => ?_
  cases r1 with
  | bl k =>
    cases k with
    | true => exact ⟨true, rfl, tX.last (l1.K.trans hK) (l1.mg.trans hm) s1 (er.le l1) e1 (px.le l1) fun a ea c' b l s r => go a ea c' b (l1.trans l) s r⟩
    | false => cases e1; exact ⟨false, rfl, go _ rfl c1 _ l1 s1 (.bl false)⟩
  | _ => cases e1
theorem re_or {a b : Expr} {rest : List Expr} {ma mb : M D} {pos : Pos} (ha : RE X W a ma) (hb : RE X W (.BoolOp .Or (b :: rest) pos) mb) : RE X W (.BoolOp .Or (a :: b :: rest) pos) (mOrV ma mb) := by
  refine pe_imp (pe_or ha hb) fun σ H Q h => ?_
  obtain ⟨c, ε, h, r', h', hK, hm, rfl, sr, er, e, px, go⟩ := h
  unfold tOrV
  refine tX.bind hK hm sr er e px fun x h1 c1 b e1 l1 s1 r1 => ?_
  cases r1 with
  | bl k =>
    cases k with
    | false => exact ⟨false, rfl, tX.last (l1.K.trans hK) (l1.mg.trans hm) s1 (er.le l1) e1 (px.le l1) fun a ea c' b l s r => go a ea c' b (l1.trans l) s r⟩
    | true => cases e1; exact ⟨true, rfl, go _ rfl c1 _ l1 s1 (.bl true)⟩
  | _ => cases e1
theorem re_not {a : Expr} {ma : M D} {pos : Pos} (ha : RE X W a ma) : RE X W (.UnaryOp .Not a pos) (mNotV ma) := by
  refine pe_imp (pe_not ha) fun σ H Q h => ?_
  obtain ⟨c, ε, h, r', h', hK, hm, rfl, sr, er, e, px, go⟩ := h
  unfold tNotV
  refine tX.bind hK hm sr er e px fun x h1 c1 b e1 l1 s1 r1 => ?_
  cases r1 with
  | bl k => cases e1; exact ⟨k, rfl, go _ rfl c1 _ l1 s1 (.bl _)⟩
  | _ => cases e1
theorem re_if {t a b : Expr} {mt : M Bool} {ma mb : M D} {pos : Pos} (ht : RT X W t mt) (ha : RE X W a ma) (hb : RE X W b mb) : RE X W (.IfExp t a b pos) (mIf mt ma mb) := by
  refine pe_imp (pe_ifExp ht ha hb) fun σ H Q h => ?_
  obtain ⟨c, ε, h, r', h', hK, hm, rfl, sr, er, e, px, go⟩ := h
  unfold tIf
  refine tX.bind hK hm sr er e px fun x h1 c1 b e1 l1 s1 r1 => ?_
  subst r1
  cases x with
  | true => exact tX.last (l1.K.trans hK) (l1.mg.trans hm) s1 (er.le l1) e1 (px.le l1) fun a ea c' b l s r => go a ea c' b (l1.trans l) s r
  | false => exact tX.last (l1.K.trans hK) (l1.mg.trans hm) s1 (er.le l1) e1 (px.le l1) fun a ea c' b l s r => go a ea c' b (l1.trans l) s r

/-! ### argument lists, displays -/
def mNil : M (List D) := fun _ h => some (.ok [], h)
def mCons (a : M D) (b : M (List D)) : M (List D) := fun ε h => bR (a ε h) fun x h1 => bR (b ε h1) fun xs h2 => some (.ok (x :: xs), h2)
theorem ra_nil : RA X W [] mNil := by
  refine pa_imp pa_nil fun σ H Q h => ?_
  obtain ⟨c, ε, h, r', h', hK, hm, rfl, sr, er, e, px, go⟩ := h
  cases e
  exact go _ rfl c _ (.refl c) sr .nil
theorem ra_cons {e : Expr} {es : List Expr} {me : M D} {m : M (List D)} (ha : RE X W e me) (hr : RA X W es m) (hs : starEach (e :: es) X.env = (false, eval e X.env) :: starEach es X.env := by rfl) : RA X W (e :: es) (mCons me m) := by
  refine pa_imp (pa_cons ha hr hs) fun σ H Q h => ?_
  obtain ⟨c, ε, h, r', h', hK, hm, rfl, sr, er, e, px, go⟩ := h
  unfold tCons
  refine tX.bind hK hm sr er e px fun x h1 c1 b e1 l1 s1 r1 => ?_
  refine tX.bind (l1.K.trans hK) (l1.mg.trans hm) s1 (er.le l1) e1 (px.le l1) fun xs h2 c2 ys e2 l2 s2 r2 => ?_
  cases e2
  exact go _ rfl c2 _ (l1.trans l2) s2 (.cons (r1.le l2) r2)
def szL {α : Type} (ds : List α) (d : D) : Option D := if ds.length ≤ sizeLine then some d else none
def mTup (m : M (List D)) : M D := fun ε h => bR (m ε h) fun ds h1 => rt (szL ds (.tup ds)) h1
def mLst (m : M (List D)) : M D := fun ε h => bR (m ε h) fun ds h1 => rt (szL ds (.lst ds)) h1
theorem szL_some {α : Type} {ds : List α} {d e : D} (h : szL ds d = some e) : ds.length ≤ sizeLine ∧ e = d := by
  unfold szL at h
  split at h
  · exact ⟨by assumption, (Option.some.inj h).symm⟩
  · cases h
theorem re_tup {es : List Expr} {m : M (List D)} {x1 pos} (h : RA X W es m) : RE X W (.Tuple es x1 pos) (mTup m) := by
  refine pe_imp (pe_tup h) fun σ H Q h => ?_
  obtain ⟨c, ε, h, r', h', hK, hm, rfl, sr, er, e, px, go⟩ := h
  unfold tTup
  refine tX.bind hK hm sr er e px fun ds h1 c1 xs e1 l1 s1 r1 => ?_
  cases q : szL ds (.tup ds) with
  | none => rw [q] at e1; cases e1
  | some d =>
    rw [q] at e1
    cases e1
    obtain ⟨hz, rfl⟩ := szL_some q
    refine ⟨by rw [← r1.length]; exact hz, fun p hp => ?_⟩
    obtain ⟨l2, s2, f2⟩ := s1.new (o := .tup xs) hp
    exact go _ rfl _ _ (l1.trans l2) s2 (.tup (.inl (.inl upd_same)) (r1.le l2))
theorem re_lst {es : List Expr} {m : M (List D)} {pos} (h : RA X W es m) : RE X W (.List es pos) (mLst m) := by
  refine pe_imp (pe_lst h) fun σ H Q h => ?_
  obtain ⟨c, ε, h, r', h', hK, hm, rfl, sr, er, e, px, go⟩ := h
  unfold tLst
  refine tX.bind hK hm sr er e px fun ds h1 c1 xs e1 l1 s1 r1 => ?_
  cases q : szL ds (.lst ds) with
  | none => rw [q] at e1; cases e1
  | some d =>
    rw [q] at e1
    cases e1
    obtain ⟨hz, rfl⟩ := szL_some q
    refine ⟨by rw [← r1.length]; exact hz, fun p hp => ?_⟩
    obtain ⟨l2, s2, f2⟩ := s1.new (o := .lst xs) hp
    exact go _ rfl _ _ (l1.trans l2) s2 (.lst upd_same f2 (r1.le l2))
end
end PD

namespace PD
open PySem PySem.Spec PyProof.Rows L2

/-! ### lists and tuples read -/
/-- one's own list -/
def asO (h : EH) (d : D) : Option (List D) := match d with
  | .lst ds => some ds
  | .ref n => match h[n]? with
    | some (.lst ds) => some ds
    | _ => none
  | _ => none
/-- a list -/
def asL (h : EH) (d : D) : Option (List D) := match d with
  | .scr ds => some ds
  | d => asO h d
/-- a list or a tuple -/
def asS (h : EH) (d : D) : Option (List D) := match d with
  | .tup ds => some ds
  | d => asL h d
theorem asO_ok {c : RC} {h : EH} {d : D} {ds : List D} {v : V} (s : SR c h) (r : Rep c d v) (e : asO h d = some ds) : ∃ a xs, v = .ref a ∧ c.H a = some (.lst xs) ∧ Reps c ds xs := by
  cases r with
  | lst h1 f r => cases e; exact ⟨_, _, rfl, h1, r⟩
  | @ref n a hn =>
    unfold asO at e
    cases q : h[n]? with
    | none => simp only [q] at e; cases e
    | some k =>
      have cr := s.cells n a k hn q
      cases k with
      | lst es =>
        simp only [q] at e
        cases e
        obtain ⟨xs, e1, e2⟩ := cr
        exact ⟨a, xs, rfl, e1, e2⟩
      | _ => simp only [q] at e; cases e
  | _ => cases e
theorem asL_ok {c : RC} {h : EH} {d : D} {ds : List D} {v : V} (s : SR c h) (r : Rep c d v) (e : asL h d = some ds) : ∃ a xs, v = .ref a ∧ SqL c.K c.H a xs ∧ Reps c ds xs := by
  cases r with
  | scr h1 r => cases e; exact ⟨_, _, rfl, h1.sq, r⟩
  | lst h1 f r => cases e; exact ⟨_, _, rfl, .inl (.inl h1), r⟩
  | ref hn => obtain ⟨a, xs, e1, e2, e3⟩ := asO_ok s (.ref hn) e; exact ⟨a, xs, e1, .inl (.inl e2), e3⟩
  | _ => cases e
theorem asS_ok {c : RC} {h : EH} {d : D} {ds : List D} {v : V} (s : SR c h) (r : Rep c d v) (e : asS h d = some ds) : ∃ a xs, v = .ref a ∧ (SqL c.K c.H a xs ∨ SqT c.K c.H a xs) ∧ Reps c ds xs := by
  cases r with
  | tup h1 r => cases e; exact ⟨_, _, rfl, .inr h1, r⟩
  | scr h1 r => cases e; exact ⟨_, _, rfl, .inl h1.sq, r⟩
  | lst h1 f r => obtain ⟨a, xs, e1, e2, e3⟩ := asL_ok s (.lst h1 f r) e; exact ⟨a, xs, e1, .inl e2, e3⟩
  | ref hn => obtain ⟨a, xs, e1, e2, e3⟩ := asL_ok s (.ref hn) e; exact ⟨a, xs, e1, .inl e2, e3⟩
  | _ => cases e
/-- a new object's place: what one may say behind it -/
theorem put_ok {c : RC} {h : EH} (s : SR c h) {Q : VK} {d : D} {o : HO} (go : ∀ c' v, c.Le c' → SR c' h → Rep c' d v → Q v c'.H) (r : ∀ p, c.H p = none → c.Le (c.put p o) → (c.put p o).fr p → Rep (c.put p o) d (.ref p)) : ∀ p, c.H p = none → Q (.ref p) (upd c.H p o) := fun p hp => by
  obtain ⟨l, s', f⟩ := s.new (o := o) hp
  exact go _ _ l s' (r p hp l f)
theorem put_lst {c : RC} {h : EH} (s : SR c h) {Q : VK} {ds : List D} {xs : List V} (go : ∀ c' v, c.Le c' → SR c' h → Rep c' (.lst ds) v → Q v c'.H) (r : Reps c ds xs) : ∀ p, c.H p = none → Q (.ref p) (upd c.H p (.lst xs)) :=
  put_ok s go fun _ _ l f => .lst upd_same f (r.le l)
theorem put_tup {c : RC} {h : EH} (s : SR c h) {Q : VK} {ds : List D} {xs : List V} (go : ∀ c' v, c.Le c' → SR c' h → Rep c' (.tup ds) v → Q v c'.H) (r : Reps c ds xs) : ∀ p, c.H p = none → Q (.ref p) (upd c.H p (.tup xs)) :=
  put_ok s go fun _ _ l f => .tup (.inl (.inl upd_same)) (r.le l)

section
variable {K : PySem.W.Frag} {mg : Str → Option Value}
theorem OpS.or {r r' : R2} {f g : EH → D → D → Option D} (h : OpS K mg r f) (h' : OpS K mg r' g) : OpS K mg (fun x y H Q => r x y H Q ∨ r' x y H Q) (fun h x y => (f h x y).or (g h x y)) := by
  intro c eh x y dx dy d Q hK hm sr rx ry e go
  dsimp only at e
  cases q : f eh dx dy with
  | some z => rw [q] at e; cases e; exact .inl (h c eh x y dx dy _ Q hK hm sr rx ry q go)
  | none => rw [q] at e; exact .inr (h' c eh x y dx dy d Q hK hm sr rx ry e go)
theorem OpS.weak {r : R2} {f g : EH → D → D → Option D} (h : OpS K mg r f) (w : ∀ eh x y d, g eh x y = some d → f eh x y = some d) : OpS K mg r g := fun c eh x y dx dy d Q hK hm sr rx ry e go => h c eh x y dx dy d Q hK hm sr rx ry (w _ _ _ _ e) go

/-! ### ints -/
def dI2 (f : Int → Int → Option D) : EH → D → D → Option D := fun _ x y => match x, y with
  | .int i, .int j => f i j
  | _, _ => none
theorem ops_I0 (g : Int → Int → Int) : OpS K mg (rI0 fun i j => .int (g i j)) (dI2 fun i j => some (.int (g i j))) := by
  intro c eh x y dx dy d Q hK hm sr rx ry e go
  cases rx with
  | int i =>
    cases ry with
    | int j => cases e; exact ⟨i, j, rfl, rfl, go c _ (.refl c) sr (.int _)⟩
    | _ => cases e
  | _ => cases e
theorem ops_B0 (g : Int → Int → Bool) : OpS K mg (rI0 fun i j => .bl (g i j)) (dI2 fun i j => some (.bl (g i j))) := by
  intro c eh x y dx dy d Q hK hm sr rx ry e go
  cases rx with
  | int i =>
    cases ry with
    | int j => cases e; exact ⟨i, j, rfl, rfl, go c _ (.refl c) sr (.bl _)⟩
    | _ => cases e
  | _ => cases e
theorem ops_IC (C : Int → Int → Prop) [∀ i j, Decidable (C i j)] (g : Int → Int → Int) : OpS K mg (rI C fun i j => .int (g i j)) (dI2 fun i j => if C i j then some (.int (g i j)) else none) := by
  intro c eh x y dx dy d Q hK hm sr rx ry e go
  cases rx with
  | int i =>
    cases ry with
    | int j =>
      have e' : (if C i j then some (D.int (g i j)) else none) = some d := e
      by_cases hc : C i j
      · rw [if_pos hc] at e'; cases e'; exact ⟨i, j, rfl, rfl, hc, go c _ (.refl c) sr (.int _)⟩
      · rw [if_neg hc] at e'; cases e'
    | _ => cases e
  | _ => cases e
instance (i j : Int) : Decidable (CMul i j) := by unfold CMul; infer_instance
instance (i j : Int) : Decidable (CDiv i j) := by unfold CDiv; infer_instance
instance (i j : Int) : Decidable (CPow i j) := by unfold CPow; infer_instance

/-! ### + -/
def dCatS (_ : EH) (x y : D) : Option D := match x, y with
  | .str a, .str b => if a.length + b.length ≤ sizeLine then some (.str (a ++ b)) else none
  | _, _ => none
theorem ops_catS : OpS K mg (fun x y H Q => ∃ i j, x = V.str i ∧ y = V.str j ∧ i.length + j.length ≤ sizeLine ∧ Q (.str (i ++ j)) H) dCatS := by
  intro c eh x y dx dy d Q hK hm sr rx ry e go
  cases rx with
  | str a =>
    cases ry with
    | str b =>
      have e' : (if a.length + b.length ≤ sizeLine then some (D.str (a ++ b)) else none) = some d := e
      by_cases hc : a.length + b.length ≤ sizeLine
      · rw [if_pos hc] at e'
        cases e'
        refine ⟨_, _, rfl, rfl, by simpa [Str.length] using hc, ?_⟩
        have ee : (⟨a.toArray⟩ : Str) ++ (⟨b.toArray⟩ : Str) = ⟨(a ++ b).toArray⟩ := by
          show (⟨a.toArray ++ b.toArray⟩ : Str) = _
          simp
        rw [ee]
        exact go c _ (.refl c) sr (.str _)
      · rw [if_neg hc] at e'; cases e'
    | _ => cases e
  | _ => cases e
def dCatL (h : EH) (x y : D) : Option D := match asO h x with
  | some a => (match asO h y with
    | some b => if a.length + b.length ≤ sizeLine then some (.lst (a ++ b)) else none
    | none => none)
  | none => none
theorem ops_catL : OpS K mg rCat dCatL := by
  intro c eh x y dx dy d Q hK hm sr rx ry e go
  unfold dCatL at e
  cases q : asO eh dx with
  | none => rw [q] at e; cases e
  | some a =>
    rw [q] at e
    dsimp only at e
    cases q2 : asO eh dy with
    | none => rw [q2] at e; cases e
    | some b =>
      rw [q2] at e
      dsimp only at e
      by_cases hc : a.length + b.length ≤ sizeLine
      · rw [if_pos hc] at e
        cases e
        obtain ⟨l, xs, rfl, h1, r1⟩ := asO_ok sr rx q
        obtain ⟨m, ys, rfl, h2, r2⟩ := asO_ok sr ry q2
        exact ⟨l, m, xs, ys, rfl, rfl, h1, h2, by rw [← r1.length, ← r2.length]; exact hc, put_lst sr go (r1.append r2)⟩
      · rw [if_neg hc] at e; cases e
def dCatT (_ : EH) (x y : D) : Option D := match x, y with
  | .tup a, .tup b => if a.length + b.length ≤ sizeLine then some (.tup (a ++ b)) else none
  | _, _ => none
theorem ops_catT : OpS K mg (rCatA K) dCatT := by
  intro c eh x y dx dy d Q hK hm sr rx ry e go
  subst hK
  cases rx with
  | @tup a1 ds1 xs1 h1 r1 =>
    cases ry with
    | @tup a2 ds2 xs2 h2 r2 =>
      have e' : (if ds1.length + ds2.length ≤ sizeLine then some (D.tup (ds1 ++ ds2)) else none) = some d := e
      by_cases hc : ds1.length + ds2.length ≤ sizeLine
      · rw [if_pos hc] at e'
        cases e'
        have q1 := r1.length
        have q2 := r2.length
        refine ⟨_, _, _, _, rfl, rfl, h1, h2, by omega, fun z => ?_, fun _ z => ?_, fun _ _ => put_tup sr go (r1.append r2)⟩
        · subst z
          cases r1
          exact go c _ (.refl c) sr (.tup h2 r2)
        · subst z
          cases r2
          rw [List.append_nil] at go
          exact go c _ (.refl c) sr (.tup h1 r1)
      · rw [if_neg hc] at e'; cases e'
    | _ => cases e
  | _ => cases e
end
/-! ### ==, != of scalars and of data -/
def toPD : D → Option PyData
  | .non => some .none
  | .bl b => some (.bool b)
  | .int i => some (.int i)
  | .str cs => some (.str ⟨cs.toArray⟩)
  | .tup ds => (go ds).map .tuple
  | .lst ds => (go ds).map .list
  | _ => none
where go : List D → Option (List PyData)
  | [] => some []
  | d :: ds => match toPD d, go ds with
    | some x, some xs => some (x :: xs)
    | _, _ => none
mutual
theorem toPD_ok {c : RC} : ∀ {d : D} {v : V} {p : PyData}, Rep c d v → toPD d = some p → Dp c.K c.H v p
  | _, _, p, .non, e => by cases e; exact .non
  | _, _, p, .bl b, e => by cases e; exact .bl b
  | _, _, p, .int i, e => by cases e; exact .int i
  | _, _, p, .str cs, e => by cases e; exact .str _
  | .tup ds, _, p, .tup h r, e => by
    rw [toPD] at e
    cases q : toPD.go ds with
    | none => rw [q] at e; cases e
    | some ps => rw [q] at e; cases e; exact .tup h (toPDs_ok r q)
  | .lst ds, _, p, .lst h f r, e => by
    rw [toPD] at e
    cases q : toPD.go ds with
    | none => rw [q] at e; cases e
    | some ps => rw [q] at e; cases e; exact .lst (.inl (.inl h)) (toPDs_ok r q)
  | _, _, p, .obj _ _ _ _, e => by cases e
  | _, _, p, .dic _ _ _ _, e => by cases e
  | _, _, p, .ref _, e => by cases e
  | _, _, p, .scr _ _, e => by cases e
theorem toPDs_ok {c : RC} : ∀ {ds : List D} {vs : List V} {ps : List PyData}, Reps c ds vs → toPD.go ds = some ps → DpAll c.K c.H vs ps
  | _, _, ps, .nil, e => by cases e; exact .nil
  | d :: ds, _, ps, .cons h t, e => by
    rw [toPD.go] at e
    cases q1 : toPD d with
    | none => rw [q1] at e; cases e
    | some x =>
      cases q2 : toPD.go ds with
      | none => rw [q1, q2] at e; cases e
      | some xs => rw [q1, q2] at e; cases e; exact .cons (toPD_ok h q1) (toPDs_ok t q2)
end
/-- two data compared -/
def dEqv (x y : D) : Option Bool := match toPD x, toPD y with
  | some p, some q => if SeqAt.shaped p = true ∧ SeqAt.shaped q = true then some (PyData.eqv p q) else none
  | _, _ => none
def dEqD (neg : Bool) : EH → D → D → Option D := fun _ x y => (dEqv x y).map fun b => .bl (neg != b)
section
variable {K : PySem.W.Frag} {mg : Str → Option Value}
theorem dEqv_ok {c : RC} {x y : D} {v u : V} {b : Bool} (rx : Rep c x v) (ry : Rep c y u) (e : dEqv x y = some b) : ∃ d e, Dp c.K c.H v d ∧ Dp c.K c.H u e ∧ SeqAt.shaped d = true ∧ SeqAt.shaped e = true ∧ PyData.eqv d e = b := by
  unfold dEqv at e
  cases q1 : toPD x with
  | none => rw [q1] at e; cases e
  | some p =>
    cases q2 : toPD y with
    | none => rw [q1, q2] at e; cases e
    | some q =>
      rw [q1, q2] at e
      have e' : (if SeqAt.shaped p = true ∧ SeqAt.shaped q = true then some (PyData.eqv p q) else none) = some b := e
      by_cases hc : SeqAt.shaped p = true ∧ SeqAt.shaped q = true
      · rw [if_pos hc] at e'
        exact ⟨p, q, toPD_ok rx q1, toPD_ok ry q2, hc.1, hc.2, Option.some.inj e'⟩
      · rw [if_neg hc] at e'; cases e'
theorem ops_eqD : OpS K mg (rEqD K) (dEqD false) := by
  intro c eh x y dx dy d Q hK hm sr rx ry e go
  subst hK
  unfold dEqD at e
  cases q : dEqv dx dy with
  | none => rw [q] at e; cases e
  | some b =>
    rw [q] at e
    obtain ⟨p, r, h1, h2, h3, h4, h5⟩ := dEqv_ok rx ry q
    cases e
    exact ⟨p, r, h1, h2, h3, h4, by rw [h5]; exact go c _ (.refl c) sr (by cases b <;> exact .bl _)⟩
theorem ops_neD : OpS K mg (rNeD K) (dEqD true) := by
  intro c eh x y dx dy d Q hK hm sr rx ry e go
  subst hK
  unfold dEqD at e
  cases q : dEqv dx dy with
  | none => rw [q] at e; cases e
  | some b =>
    rw [q] at e
    obtain ⟨p, r, h1, h2, h3, h4, h5⟩ := dEqv_ok rx ry q
    cases e
    exact ⟨p, r, h1, h2, h3, h4, by rw [h5]; exact go c _ (.refl c) sr (by cases b <;> exact .bl _)⟩
/-- scalars, without a look at their signs -/
def scalD : D → D → Option Bool
  | .non, .non => some true | .non, .int _ => some false | .int _, .non => some false | .non, .bl _ => some false | .bl _, .non => some false | .non, .str _ => some false | .str _, .non => some false
  | .int a, .int b => some (decide (a = b)) | .bl a, .bl b => some (decide (a = b)) | .str a, .str b => some (decide (a = b))
  | .int _, .str _ => some false | .str _, .int _ => some false | .bl _, .str _ => some false | .str _, .bl _ => some false
  | _, _ => none
theorem scalD_ok {c : RC} {x y : D} {v u : V} {b : Bool} (rx : Rep c x v) (ry : Rep c y u) (e : scalD x y = some b) : scal v u = true ∧ decide (v = u) = b := by
  cases rx <;> cases ry <;> first
    | (cases e; done)
    | (cases e; exact ⟨rfl, by simp⟩)
theorem ops_eqS : OpS K mg rEq (fun _ x y => (scalD x y).map D.bl) := by
  intro c eh x y dx dy d Q hK hm sr rx ry e go
  dsimp only at e
  cases q : scalD dx dy with
  | none => rw [q] at e; cases e
  | some b =>
    rw [q] at e
    cases e
    obtain ⟨h1, h2⟩ := scalD_ok rx ry q
    exact ⟨h1, by rw [h2]; exact go c _ (.refl c) sr (.bl b)⟩
theorem ops_neS : OpS K mg rNe (fun _ x y => (scalD x y).map fun b => D.bl (!b)) := by
  intro c eh x y dx dy d Q hK hm sr rx ry e go
  dsimp only at e
  cases q : scalD dx dy with
  | none => rw [q] at e; cases e
  | some b =>
    rw [q] at e
    cases e
    obtain ⟨h1, h2⟩ := scalD_ok rx ry q
    exact ⟨h1, by rw [h2]; exact go c _ (.refl c) sr (.bl _)⟩
def dEq : EH → D → D → Option D := fun h x y => ((scalD x y).map D.bl).or (dEqD false h x y)
def dNe : EH → D → D → Option D := fun h x y => ((scalD x y).map fun b => D.bl (!b)).or (dEqD true h x y)
end
end PD

namespace PD
open PySem PySem.Spec PyProof.Rows L2

/-! ### in, not in -/
def flatD : D → Bool
  | .non => true
  | .bl _ => true
  | .int _ => true
  | .str _ => true
  | _ => false
def eqF : D → D → Bool
  | .non, .non => true
  | .bl a, .bl b => a == b
  | .bl a, .int b => (if a then 1 else 0) == b
  | .int a, .bl b => a == (if b then 1 else 0)
  | .int a, .int b => a == b
  | .str a, .str b => a == b
  | _, _ => false
theorem flat_ok {c : RC} {d : D} {v : V} (r : Rep c d v) : flatV v = flatD d := by cases r <;> rfl
theorem eqF_ok {c : RC} {d e : D} {v u : V} (r : Rep c d v) (q : Rep c e u) : eqV v u = eqF d e := by
  cases r <;> cases q <;> first
    | rfl
    | (rename_i a b
       show ((⟨a.toArray⟩ : Str) == ⟨b.toArray⟩) = (a == b)
       rw [Bool.eq_iff_iff]
       simp)
theorem flats_ok {c : RC} : ∀ {ds : List D} {vs : List V}, Reps c ds vs → vs.all flatV = ds.all flatD
  | _, _, .nil => rfl
  | _, _, .cons h t => by rw [List.all_cons, List.all_cons, flat_ok h, flats_ok t]
theorem inV_ok {c : RC} {x : D} {v : V} (r : Rep c x v) : ∀ {ds : List D} {vs : List V}, Reps c ds vs → inV v vs = ds.any fun y => eqF y x
  | _, _, .nil => rfl
  | _, _, .cons h t => by
    have ih := inV_ok r t
    unfold inV at ih ⊢
    rw [List.any_cons, List.any_cons, ih, eqF_ok h r]
def dIn (neg : Bool) (h : EH) (x y : D) : Option D := match asS h y with
  | some ds => if flatD x = true ∧ ds.all flatD = true then some (.bl (neg != ds.any fun z => eqF z x)) else none
  | none => none
def dInS (neg : Bool) (_ : EH) (x y : D) : Option D := match x, y with
  | .str a, .str z => (match a with
    | [c] => some (.bl (neg != decide (c ∈ z)))
    | _ => none)
  | _, _ => none
section
variable {K : PySem.W.Frag} {mg : Str → Option Value}
theorem ops_in (neg : Bool) : OpS K mg (rIn K neg) (dIn neg) := by
  intro c eh x y dx dy d Q hK hm sr rx ry e go
  subst hK
  unfold dIn at e
  cases q : asS eh dy with
  | none => rw [q] at e; cases e
  | some ds =>
    rw [q] at e
    dsimp only at e
    obtain ⟨a, xs, rfl, h1, r1⟩ := asS_ok sr ry q
    by_cases hc : flatD dx = true ∧ ds.all flatD = true
    · rw [if_pos hc] at e
      cases e
      refine ⟨a, xs, rfl, h1, (flat_ok rx).trans hc.1, (flats_ok r1).trans hc.2, ?_⟩
      rw [inV_ok rx r1]
      cases neg
      · exact go c _ (.refl c) sr (by simpa using Rep.bl _)
      · exact go c _ (.refl c) sr (by simpa using Rep.bl _)
    · rw [if_neg hc] at e; cases e
theorem ops_inS : OpS K mg (fun x y H Q => ∃ (c : Nat) (z : Str), x = V.str ⟨#[c]⟩ ∧ y = V.str z ∧ Q (.bl (decide (c ∈ z.cps.toList))) H) (dInS false) := by
  intro c eh x y dx dy d Q hK hm sr rx ry e go
  cases rx with
  | str a =>
    cases ry with
    | str b =>
      match a, e with
      | [k], e =>
        cases e
        exact ⟨k, _, rfl, rfl, go c _ (.refl c) sr (by simpa using Rep.bl _)⟩
    | _ => cases e
  | _ => cases e
theorem ops_ninS : OpS K mg (fun x y H Q => ∃ (c : Nat) (z : Str), x = V.str ⟨#[c]⟩ ∧ y = V.str z ∧ Q (.bl (!decide (c ∈ z.cps.toList))) H) (dInS true) := by
  intro c eh x y dx dy d Q hK hm sr rx ry e go
  cases rx with
  | str a =>
    cases ry with
    | str b =>
      match a, e with
      | [k], e =>
        cases e
        exact ⟨k, _, rfl, rfl, go c _ (.refl c) sr (by simpa using Rep.bl _)⟩
    | _ => cases e
  | _ => cases e
/-- is None, is not None -/
def isNon : D → Bool
  | .non => true
  | _ => false
def dIsN (neg : Bool) (_ : EH) (x y : D) : Option D := match y with
  | .non => some (.bl (neg != isNon x))
  | _ => none
theorem isNon_ok {c : RC} {d : D} {v : V} (r : Rep c d v) : decide (v = .non) = isNon d := by cases r <;> simp [isNon]
theorem ops_isN : OpS K mg (fun x y H Q => y = .non ∧ Q (.bl (decide (x = .non))) H) (dIsN false) := by
  intro c eh x y dx dy d Q hK hm sr rx ry e go
  cases ry with
  | non => cases e; exact ⟨rfl, by rw [isNon_ok rx]; exact go c _ (.refl c) sr (by simpa using Rep.bl _)⟩
  | _ => cases e
theorem ops_isnN : OpS K mg (fun x y H Q => y = .non ∧ Q (.bl (!decide (x = .non))) H) (dIsN true) := by
  intro c eh x y dx dy d Q hK hm sr rx ry e go
  cases ry with
  | non => cases e; exact ⟨rfl, by rw [isNon_ok rx]; exact go c _ (.refl c) sr (by simpa using Rep.bl _)⟩
  | _ => cases e

/-! ### o[i] -/
theorem atI_map {c : RC} {ds : List D} {xs : List V} {i : Int} {d : D} (r : Reps c ds xs) (e : atI ds i = some d) : ∃ v, atI xs i = some v ∧ Rep c d v := by
  unfold atI at e ⊢
  rw [← r.length]
  cases q : ixN ds.length i with
  | none => rw [q] at e; cases e
  | some j => rw [q] at e; exact r.get e
def dIx (h : EH) (x y : D) : Option D := match y with
  | .int i => (match x with
    | .str z => if z.length ≤ sizeLine then (atI z i).map fun k => .str [k] else none
    | x => match asS h x with
      | some ds => atI ds i
      | none => none)
  | _ => none
theorem ops_ix : OpS K mg (rIx K) dIx := by
  intro c eh x y dx dy d Q hK hm sr rx ry e go
  subst hK
  cases ry with
  | int i =>
    have fin : ∀ ds, asS eh dx = some ds → atI ds i = some d → rIx c.K x (.int i) c.H Q := fun ds q e => by
      obtain ⟨a, xs, rfl, h1, r1⟩ := asS_ok sr rx q
      obtain ⟨v, h2, r2⟩ := atI_map r1 e
      rcases h1 with h1 | h1
      · exact .inl ⟨a, xs, i, v, rfl, rfl, h1, h2, go c v (.refl c) sr r2⟩
      · exact .inr (.inl ⟨a, xs, i, v, rfl, rfl, h1, h2, go c v (.refl c) sr r2⟩)
    cases rx with
    | str z =>
      have e' : (if z.length ≤ sizeLine then (atI z i).map fun k => D.str [k] else none) = some d := e
      by_cases hc : z.length ≤ sizeLine
      · rw [if_pos hc] at e'
        cases q : atI z i with
        | none => rw [q] at e'; cases e'
        | some k =>
          rw [q] at e'
          cases e'
          exact .inr (.inr ⟨_, i, k, rfl, rfl, by simpa [Str.length] using hc, by simpa using q, go c _ (.refl c) sr (.str [k])⟩)
      · rw [if_neg hc] at e'; cases e'
    | @tup a ds xs h1 r1 => exact fin ds rfl e
    | @lst a ds xs h1 f r1 => exact fin ds rfl e
    | @scr a ds xs h1 r1 => exact fin ds rfl e
    | @ref n a hn =>
      cases q : asS eh (.ref n) with
      | none => unfold dIx at e; simp only [q] at e; cases e
      | some ds => unfold dIx at e; simp only [q] at e; exact fin ds q e
    | _ => cases e
  | _ => cases e
end

/-! ### slices -/
def cutD {α : Type} (xs : List α) (lo hi : Option Int) : List α := (xs.drop (HT.sIx xs.length 0 lo)).take (HT.sIx xs.length xs.length hi - HT.sIx xs.length 0 lo)
def mNoP : M (Option Int) := fun _ h => some (.ok none, h)
def mSmP (m : M D) : M (Option Int) := fun ε h => bR (m ε h) fun x h1 => match x with
  | .int i => some (.ok (some i), h1)
  | _ => none
def tO (K : PySem.W.Frag) (mg : Str → Option Value) (W : WX) := tX (α := Option Int) (fun (_ : RC) a b => a = b) K mg W
abbrev RO (X : Cx) (W : WX) (e : Option Expr) (m : M (Option Int)) : Prop := PO X e (tO X.K X.mg W m)
theorem po_imp {X : Cx} {e : Option Expr} {t t' : TO} (h : PO X e t) (k : ∀ σ H Q, t' σ H Q → t σ H Q) : PO X e t' := ⟨fun pins s σ H Q I q => h.run pins s σ H Q I (k σ H Q q)⟩
def dSl (h : EH) (x : D) (lo hi : Option Int) : Option D := match x with
  | .str z => if z.length ≤ sizeLine then some (.str (cutD z lo hi)) else none
  | .tup ds => some (.tup (cutD ds lo hi))
  | x => match asL h x with
    | some ds => some (.lst (cutD ds lo hi))
    | none => none
def mSl (a : M D) (lo hi : M (Option Int)) : M D := fun ε h => bR (a ε h) fun x h1 => bR (lo ε h1) fun l h2 => bR (hi ε h2) fun u h3 => rt (dSl h3 x l u) h3
section
variable {X : Cx} {W : WX}
theorem ro_none : RO X W none mNoP := by
  refine po_imp po_none fun σ H Q h => ?_
  obtain ⟨c, ε, h, r', h', hK, hm, rfl, sr, er, e, px, go⟩ := h
  cases e
  exact go _ rfl c _ (.refl c) sr rfl
theorem ro_some {e : Expr} {m : M D} (h : RE X W e m) : RO X W (some e) (mSmP m) := by
  refine po_imp (po_some h) fun σ H Q h => ?_
  obtain ⟨c, ε, h, r', h', hK, hm, rfl, sr, er, e, px, go⟩ := h
  unfold tPart
  refine tX.bind hK hm sr er e px fun x h1 c1 b e1 l1 s1 r1 => ?_
  cases r1 with
  | int i => cases e1; exact ⟨i, rfl, go _ rfl c1 _ l1 s1 rfl⟩
  | _ => cases e1
end
end PD

namespace PD
open PySem PySem.Spec PyProof.Rows L2

section
variable {X : Cx} {W : WX}
/-! ### slices -/
theorem cutV_reps {c : RC} {ds : List D} {xs : List V} (r : Reps c ds xs) (lo hi : Option Int) : Reps c (cutD ds lo hi) (cutV xs lo hi) := by
  unfold cutD cutV
  rw [← r.length]
  exact (r.drop _).take _
theorem cutS_cutD (z : List Nat) (lo hi : Option Int) : cutS ⟨z.toArray⟩ lo hi = ⟨(cutD z lo hi).toArray⟩ := by
  unfold cutS cutD
  simp [Str.length]
theorem re_slice {a : Expr} {lo hi : Option Expr} {ma : M D} {ml mh : M (Option Int)} {p2 pos : Pos} (ha : RE X W a ma) (hl : RO X W lo ml) (hh : RO X W hi mh) : RE X W (.Subscript a (.Slice lo hi none p2) pos) (mSl ma ml mh) := by
  refine pe_imp (pe_slice (sl_list.or (sl_tupA.or sl_str)) ha hl hh) fun σ H Q h => ?_
  obtain ⟨c, ε, h, r', h', hK, hm, rfl, sr, er, e, px, go⟩ := h
  unfold tSl
  refine tX.bind hK hm sr er e px fun x h1 c1 v e1 l1 s1 r1 => ?_
  refine tX.bind (l1.K.trans hK) (l1.mg.trans hm) s1 (er.le l1) e1 (px.le l1) fun lo' h2 c2 lo2 e2 l2 s2 r2 => ?_
  refine tX.bind ((l2.K.trans l1.K).trans hK) ((l2.mg.trans l1.mg).trans hm) s2 ((er.le l1).le l2) e2 ((px.le l1).le l2) fun hi' h3 c3 hi2 e3 l3 s3 r3 => ?_
  subst r2 r3
  have r1' := (r1.le l2).le l3
  have hK3 : c3.K = X.K := ((l3.K.trans l2.K).trans l1.K).trans hK
  cases q : dSl h3 x lo' hi' with
  | none => rw [q] at e3; cases e3
  | some d =>
    rw [q] at e3
    cases e3
    have go' : ∀ c' v, c3.Le c' → SR c' _ → Rep c' d v → Q v c'.H := fun c' v l s r => go d rfl c' v (((l1.trans l2).trans l3).trans l) s r
    have fin : ∀ ds, asL _ x = some ds → some (D.lst (cutD ds lo' hi')) = some d → rSlL X.K v lo' hi' c3.H Q := fun ds q e => by
      cases e
      obtain ⟨a, xs, rfl, h1, r1⟩ := asL_ok s3 r1' q
      exact ⟨a, xs, rfl, (by rw [← hK3]; exact h1), put_lst s3 go' (cutV_reps r1 lo' hi')⟩
    cases r1' with
    | str z =>
      have e' : (if z.length ≤ sizeLine then some (D.str (cutD z lo' hi')) else none) = some d := q
      by_cases hc : z.length ≤ sizeLine
      · rw [if_pos hc] at e'
        cases e'
        exact .inr (.inr ⟨_, rfl, by simpa [Str.length] using hc, by rw [cutS_cutD]; exact go' c3 _ (.refl c3) s3 (.str _)⟩)
      · rw [if_neg hc] at e'; cases e'
    | @tup a ds xs k1 k2 =>
      cases q
      refine .inr (.inl ⟨a, xs, rfl, by rw [← hK3]; exact k1, fun hw => ?_, fun _ => put_tup s3 go' (cutV_reps k2 lo' hi')⟩)
      have ez : cutD ds lo' hi' = ds := by
        unfold cutD
        rw [k2.length, hw.1, hw.2, List.drop_zero, Nat.sub_zero, List.take_of_length_le (by rw [k2.length]; exact Nat.le_refl _)]
      exact go' c3 _ (.refl c3) s3 (by rw [ez]; exact .tup k1 k2)
    | @lst a ds xs k1 k2 k3 => exact .inl (fin ds rfl q)
    | @scr a ds xs k1 k2 => exact .inl (fin ds rfl q)
    | @ref n a hn =>
      have q' : (match asL h' (D.ref n) with
        | some ds => some (D.lst (cutD ds lo' hi'))
        | none => none) = some d := q
      cases q2 : asL h' (D.ref n) with
      | none => rw [q2] at q'; cases q'
      | some ds => rw [q2] at q'; exact .inl (fin ds q2 q')
    | _ => cases q

/-! ### built-ins called -/
def CallS (K : PySem.W.Frag) (mg : Str → Option Value) (r : List V → Hp → VK → Prop) (f : EH → List D → Option D) : Prop := ∀ (c : RC) (h : EH) (xs : List V) (ds : List D) (d : D) (Q : VK), c.K = K → c.mg = mg → SR c h → Reps c ds xs → f h ds = some d →
  (∀ c' v, c.Le c' → SR c' h → Rep c' d v → Q v c'.H) → r xs c.H Q
def mCall (f : EH → List D → Option D) (a : M (List D)) : M D := fun ε h => bR (a ε h) fun xs h1 => rt (f h1 xs) h1
theorem tcb_of {K : PySem.W.Frag} {mg : Str → Option Value} {r : List V → Hp → VK → Prop} {f : EH → List D → Option D} {a : M (List D)} (hs : CallS K mg r f) {σ : L2.St} {H : Hp} {Q : VK} (h : tE K mg W (mCall f a) σ H Q) : tCB r (tA K mg W a) σ H Q := by
  obtain ⟨c, ε, h, r', h', hK, hm, rfl, sr, er, e, px, go⟩ := h
  unfold tCB
  refine tX.bind hK hm sr er e px fun ds h1 c1 xs e1 l1 s1 r1 => ?_
  cases q : f h1 ds with
  | none => rw [q] at e1; cases e1
  | some d =>
    rw [q] at e1
    cases e1
    exact hs c1 _ xs ds d Q (l1.K.trans hK) (l1.mg.trans hm) s1 r1 q fun c' v l s r => go d rfl c' v (l1.trans l) s r
variable {e : Expr} {es : List Expr} {x : Str} {p pos : Pos} {ma : M (List D)} {id : String} {T : String} {r : List V → Hp → VK → Prop} {f : EH → List D → Option D}
theorem re_callB (hc : CallR X (.builtin id) r) (hs : CallS X.K X.mg r f) (hm : X.mg x = none) (ha : RA X W (e :: es) ma) (hv : bootBuiltins x = some (.builtin id) := by decide +kernel) (hg : Gl X x := by rfl) (hn : x ≠ "__name__" := by decide) (hdb : (x == ("__debug__" : Str)) = false := by decide)
    (he : starEach (e :: es) X.env = (false, eval e X.env) :: starEach es X.env := by rfl) (hpl : (backTo pos (starEach es X.env)).any (·.1) = false := by rfl) : RE X W (.Call (.Name x p) (e :: es) [] pos) (mCall f ma) :=
  pe_imp (pe_callB hc hg hm hv ha hn hdb he hpl) fun _ _ _ h => tcb_of hs h
theorem re_callTy (hc : CallR X (.type T) r) (hs : CallS X.K X.mg r f) (hm : X.mg x = none) (ha : RA X W (e :: es) ma) (hv : bootBuiltins x = some (.type T) := by decide +kernel) (hg : Gl X x := by rfl) (hn : x ≠ "__name__" := by decide) (hdb : (x == ("__debug__" : Str)) = false := by decide)
    (he : starEach (e :: es) X.env = (false, eval e X.env) :: starEach es X.env := by rfl) (hpl : (backTo pos (starEach es X.env)).any (·.1) = false := by rfl) : RE X W (.Call (.Name x p) (e :: es) [] pos) (mCall f ma) :=
  pe_imp (pe_callTy hc hg hm hv ha hn hdb he hpl) fun _ _ _ h => tcb_of hs h
end
section
variable {K : PySem.W.Frag} {mg : Str → Option Value}
def dLen1 (h : EH) (d : D) : Option D := match d with
  | .str z => if z.length ≤ sizeLine then some (.int z.length) else none
  | d => (match asS h d with
    | some xs => some (.int xs.length)
    | none => none)
def dLen (h : EH) (ds : List D) : Option D := match ds with
  | [d] => dLen1 h d
  | _ => none
theorem cs_len : CallS K mg (fun xs H Q => ∃ x n, xs = [x] ∧ LenV K x H n ∧ Q (.int n) H) dLen := by
  intro c eh xs ds d Q hK hm sr rx e go
  subst hK
  match ds, rx, e with
  | [d0], .cons r0 .nil, e =>
    have fin : ∀ v xs, Rep c d0 v → asS eh d0 = some xs → d = .int xs.length → ∃ x n, [v] = [x] ∧ LenV c.K x c.H n ∧ Q (.int n) c.H := fun v xs r0 q eq => by
      subst eq
      obtain ⟨a, ys, rfl, h1, r1⟩ := asS_ok sr r0 q
      refine ⟨_, ys.length, rfl, ?_, ?_⟩
      · rcases h1 with h1 | h1
        · exact .inl ⟨ys, h1, rfl⟩
        · exact .inr ⟨ys, h1, rfl⟩
      · rw [← r1.length]; exact go c _ (.refl c) sr (.int _)
    cases r0 with
    | str z =>
      have e' : (if z.length ≤ sizeLine then some (D.int z.length) else none) = some d := e
      by_cases hc : z.length ≤ sizeLine
      · rw [if_pos hc] at e'
        cases e'
        exact ⟨_, z.length, rfl, ⟨by simpa [Str.length] using hc, by simp [Str.length]⟩, go c _ (.refl c) sr (.int _)⟩
      · rw [if_neg hc] at e'; cases e'
    | @tup a ds xs h1 r1 => exact fin _ ds (.tup h1 r1) rfl (by cases e; rfl)
    | @lst a ds xs h1 f r1 => exact fin _ ds (.lst h1 f r1) rfl (by cases e; rfl)
    | @scr a ds xs h1 r1 => exact fin _ ds (.scr h1 r1) rfl (by cases e; rfl)
    | @ref n a hn =>
      have e' : (match asS eh (D.ref n) with
        | some xs => some (D.int xs.length)
        | none => none) = some d := e
      cases q : asS eh (.ref n) with
      | none => rw [q] at e'; cases e'
      | some ds => rw [q] at e'; exact fin _ ds (.ref hn) q (by cases e'; rfl)
    | _ => cases e
  | [], _, e => cases e
  | _ :: _ :: _, _, e => cases e
def dInt1 (d : D) : Option D := match d with
  | .int i => some (.int i)
  | .bl k => some (.int (if k then 1 else 0))
  | .str z => if z.length ≤ 640 then (PySem.intText? ⟨z.toArray⟩).map .int else none
  | _ => none
def dInt (_ : EH) (ds : List D) : Option D := match ds with
  | [d] => dInt1 d
  | _ => none
theorem cs_int : CallS K mg (fun xs H Q => ((∃ i, xs = [.int i] ∧ Q (.int i) H) ∨ ∃ k, xs = [.bl k] ∧ Q (.int (if k then 1 else 0)) H) ∨ (∃ a n, xs = [.str a] ∧ PySem.intText? a = some n ∧ a.length ≤ 640 ∧ Q (.int n) H)) dInt := by
  intro c eh xs ds d Q hK hm sr rx e go
  match ds, rx, e with
  | [d0], .cons r0 .nil, e =>
    cases r0 with
    | int i => cases e; exact .inl (.inl ⟨i, rfl, go c _ (.refl c) sr (.int _)⟩)
    | bl k => cases e; exact .inl (.inr ⟨k, rfl, go c _ (.refl c) sr (.int _)⟩)
    | str z =>
      have e' : (if z.length ≤ 640 then (PySem.intText? ⟨z.toArray⟩).map D.int else none) = some d := e
      by_cases hc : z.length ≤ 640
      · rw [if_pos hc] at e'
        cases q : PySem.intText? ⟨z.toArray⟩ with
        | none => rw [q] at e'; cases e'
        | some n => rw [q] at e'; cases e'; exact .inr ⟨_, n, rfl, q, by simpa [Str.length] using hc, go c _ (.refl c) sr (.int _)⟩
      · rw [if_neg hc] at e'; cases e'
    | _ => cases e
  | [], _, e => cases e
  | _ :: _ :: _, _, e => cases e
/-- the digits of an int -/
def decI (i : Int) : List Nat := (toString i).toList.map Char.toNat
def dStr1 (d : D) : Option D := match d with
  | .int i => if i.natAbs.log2 < 1920 then some (.str (decI i)) else none
  | .str z => some (.str z)
  | _ => none
def dStr (_ : EH) (ds : List D) : Option D := match ds with
  | [d] => dStr1 d
  | _ => none
theorem cs_str : CallS K mg (fun xs H Q => (∃ i, xs = [.int i] ∧ i.natAbs.log2 < 1920 ∧ Q (.str (toString i)) H) ∨ (∃ a, xs = [.str a] ∧ Q (.str a) H)) dStr := by
  intro c eh xs ds d Q hK hm sr rx e go
  match ds, rx, e with
  | [d0], .cons r0 .nil, e =>
    cases r0 with
    | int i =>
      have e' : (if i.natAbs.log2 < 1920 then some (D.str (decI i)) else none) = some d := e
      by_cases hc : i.natAbs.log2 < 1920
      · rw [if_pos hc] at e'
        cases e'
        have es : (Str.ofString (toString i)) = ⟨(decI i).toArray⟩ := by
          rw [Str.ofString_eq_toList]
          rfl
        exact .inl ⟨i, rfl, hc, by rw [es]; exact go c _ (.refl c) sr (.str _)⟩
      · rw [if_neg hc] at e'; cases e'
    | str z => cases e; exact .inr ⟨_, rfl, go c _ (.refl c) sr (.str _)⟩
    | _ => cases e
  | [], _, e => cases e
  | _ :: _ :: _, _, e => cases e
def dList (h : EH) (ds : List D) : Option D := match ds with
  | [d] => (match asS h d with
    | some xs => some (.lst xs)
    | none => none)
  | _ => none
theorem cs_list : CallS K mg (fun xs H Q => ∃ p ys, xs = [.ref p] ∧ (SqL K H p ys ∨ SqT K H p ys) ∧ ∀ l, H l = none → Q (.ref l) (upd H l (.lst ys))) dList := by
  intro c eh xs ds d Q hK hm sr rx e go
  subst hK
  match ds, rx, e with
  | [d0], .cons r0 .nil, e =>
    cases q : asS eh d0 with
    | none => unfold dList at e; simp only [q] at e; cases e
    | some xs =>
      unfold dList at e
      simp only [q] at e
      cases e
      obtain ⟨a, ys, rfl, h1, r1⟩ := asS_ok sr r0 q
      exact ⟨a, ys, rfl, h1, put_lst sr go r1⟩
  | [], _, e => cases e
  | _ :: _ :: _, _, e => cases e
def dTuple (h : EH) (ds : List D) : Option D := match ds with
  | [d] => (match asS h d with
    | some xs => some (.tup xs)
    | none => none)
  | _ => none
theorem cs_tuple : CallS K mg (fun xs H Q => ∃ p ys, xs = [.ref p] ∧ ((SqL K H p ys ∧ ∀ l, H l = none → Q (.ref l) (upd H l (.tup ys))) ∨ (SqT K H p ys ∧ Q (.ref p) H))) dTuple := by
  intro c eh xs ds d Q hK hm sr rx e go
  subst hK
  match ds, rx, e with
  | [d0], .cons r0 .nil, e =>
    cases q : asS eh d0 with
    | none => unfold dTuple at e; simp only [q] at e; cases e
    | some xs =>
      unfold dTuple at e
      simp only [q] at e
      cases e
      obtain ⟨a, ys, rfl, h1, r1⟩ := asS_ok sr r0 q
      rcases h1 with h1 | h1
      · exact ⟨a, ys, rfl, .inl ⟨h1, put_tup sr go r1⟩⟩
      · exact ⟨a, ys, rfl, .inr ⟨h1, go c _ (.refl c) sr (.tup h1 r1)⟩⟩
  | [], _, e => cases e
  | _ :: _ :: _, _, e => cases e
def asBs : List D → Option (List Bool)
  | [] => some []
  | .bl b :: ds => (asBs ds).map (b :: ·)
  | _ :: _ => none
theorem asBs_ok {c : RC} : ∀ {ds : List D} {xs : List V} {bs : List Bool}, Reps c ds xs → asBs ds = some bs → xs = bs.map V.bl
  | _, _, bs, .nil, e => by cases e; rfl
  | _, _, bs, .cons h t, e => by
    cases h with
    | bl b =>
      unfold asBs at e
      rename_i ds vs
      cases q : asBs ds with
      | none => rw [q] at e; cases e
      | some cs => rw [q] at e; cases e; rw [asBs_ok t q]; rfl
    | _ => cases e
def dAll (h : EH) (ds : List D) : Option D := match ds with
  | [d] => (match asL h d with
    | some xs => (asBs xs).map fun bs => .bl (bs.all id)
    | none => none)
  | _ => none
def dAny (h : EH) (ds : List D) : Option D := match ds with
  | [d] => (match asL h d with
    | some xs => (asBs xs).map fun bs => .bl (bs.any id)
    | none => none)
  | _ => none
theorem cs_all : CallS K mg (rAll K) dAll := by
  intro c eh xs ds d Q hK hm sr rx e go
  subst hK
  match ds, rx, e with
  | [d0], .cons r0 .nil, e =>
    cases q : asL eh d0 with
    | none => unfold dAll at e; simp only [q] at e; cases e
    | some xs =>
      unfold dAll at e
      simp only [q] at e
      obtain ⟨a, ys, rfl, h1, r1⟩ := asL_ok sr r0 q
      cases q2 : asBs xs with
      | none => rw [q2] at e; cases e
      | some bs => rw [q2] at e; cases e; exact ⟨a, bs, rfl, by rw [← asBs_ok r1 q2]; exact h1, go c _ (.refl c) sr (.bl _)⟩
  | [], _, e => cases e
  | _ :: _ :: _, _, e => cases e
theorem cs_any : CallS K mg (rAny K) dAny := by
  intro c eh xs ds d Q hK hm sr rx e go
  subst hK
  match ds, rx, e with
  | [d0], .cons r0 .nil, e =>
    cases q : asL eh d0 with
    | none => unfold dAny at e; simp only [q] at e; cases e
    | some xs =>
      unfold dAny at e
      simp only [q] at e
      obtain ⟨a, ys, rfl, h1, r1⟩ := asL_ok sr r0 q
      cases q2 : asBs xs with
      | none => rw [q2] at e; cases e
      | some bs => rw [q2] at e; cases e; exact ⟨a, bs, rfl, by rw [← asBs_ok r1 q2]; exact h1, go c _ (.refl c) sr (.bl _)⟩
  | [], _, e => cases e
  | _ :: _ :: _, _, e => cases e
end
end PD

namespace PD
open PySem PySem.Spec PyProof.Rows L2

/-! ### statements -/
inductive RS where
  | nx (ε : Ev)
  | rt (d : D)
  | bk (ε : Ev)
  | ct (ε : Ev)
  | ex (e : Ex) (ε : Ev)
abbrev MS := Ev → EH → Option (RS × EH)
/-- what is wanted of a statement's end -/
def Fin (W : WX) (D : Ends) (c : RC) (r : RS) (h' : EH) : Prop := match r with
  | .nx ε' => ∀ c' σ', c.Le c' → SR c' h' → EnvR c' ε' σ' → D.nx σ' c'.H
  | .rt d => ∀ c' v, c.Le c' → SR c' h' → Rep c' d v → D.rt v c'.H
  | .bk ε' => ∀ c' σ', c.Le c' → SR c' h' → EnvR c' ε' σ' → D.bk σ' c'.H
  | .ct ε' => ∀ c' σ', c.Le c' → SR c' h' → EnvR c' ε' σ' → D.ct σ' c'.H
  | .ex e ε' => ∀ c' σ' cls dx, c.Le c' → SR c' h' → EnvR c' ε' σ' → ExR c' e cls dx → W cls dx σ' c'.H
theorem Fin.le {W : WX} {D : Ends} {c c1 : RC} {r : RS} {h' : EH} (f : Fin W D c r h') (l : c.Le c1) : Fin W D c1 r h' := by
  cases r with
  | nx ε' => exact fun c' σ' l' => f c' σ' (l.trans l')
  | rt d => exact fun c' v l' => f c' v (l.trans l')
  | bk ε' => exact fun c' σ' l' => f c' σ' (l.trans l')
  | ct ε' => exact fun c' σ' l' => f c' σ' (l.trans l')
  | ex e ε' => exact fun c' σ' cls dx l' => f c' σ' cls dx (l.trans l')
def tS (K : PySem.W.Frag) (mg : Str → Option Value) (W : WX) (m : MS) : TS := fun D σ H =>
  ∃ (c : RC) (ε : Ev) (h : EH) (r : RS) (h' : EH), c.K = K ∧ c.mg = mg ∧ c.H = H ∧ SR c h ∧ EnvR c ε σ ∧ m ε h = some (r, h') ∧ Fin W D c r h'
abbrev RSt (X : Cx) (W : WX) (st : Stmt) (m : MS) : Prop := PS X st (tS X.K X.mg W m)
abbrev RSs (X : Cx) (W : WX) (sts : List Stmt) (m : MS) : Prop := PSs X sts (tS X.K X.mg W m)
theorem ps_imp {X : Cx} {st : Stmt} {t t' : TS} (h : PS X st t) (k : ∀ D σ H, t' D σ H → t D σ H) : PS X st t' := ⟨fun pins s σ H D I q => h.run pins s σ H D I (k D σ H q)⟩
theorem pss_imp {X : Cx} {st : List Stmt} {t t' : TS} (h : PSs X st t) (k : ∀ D σ H, t' D σ H → t D σ H) : PSs X st t' := ⟨fun pins s σ H D I q => h.run pins s σ H D I (k D σ H q)⟩
/-- an expression, then a statement's end -/
def bS {α : Type} (x : O α) (ε : Ev) (f : α → EH → Option (RS × EH)) : Option (RS × EH) := match x with
  | some (.ok a, h) => f a h
  | some (.ex e, h) => some (.ex e ε, h)
  | none => none
theorem tX.stm {α β : Type} {Rl : RC → α → β → Prop} {K : PySem.W.Frag} {mg : Str → Option Value} {W : WX} {m : M α} {k : α → EH → Option (RS × EH)} {c : RC} {ε : Ev} {h h' : EH} {r : RS} {σ : L2.St} {D : Ends} {Q : β → Hp → Prop}
    (hK : c.K = K) (hm : c.mg = mg) (sr : SR c h) (er : EnvR c ε σ) (e : bS (m ε h) ε k = some (r, h')) (fin : Fin W D c r h')
    (go : ∀ a h1 c1 b, k a h1 = some (r, h') → c.Le c1 → SR c1 h1 → Rl c1 a b → Q b c1.H) : tX Rl K mg W m σ c.H Q := by
  cases q : m ε h with
  | none => rw [q] at e; cases e
  | some z =>
    obtain ⟨r1, h1⟩ := z
    cases r1 with
    | ok a =>
      rw [q] at e
      exact ⟨c, ε, h, .ok a, h1, hK, hm, rfl, sr, er, q, Px.ok, fun a' ea c1 b l s rb => by cases ea; exact go a h1 c1 b e l s rb⟩
    | ex x =>
      rw [q] at e
      cases e
      exact ⟨c, ε, h, .ex x, _, hK, hm, rfl, sr, er, q, fun y ey c' cls dx l s xr => by cases ey; exact fin c' σ cls dx l s (er.le l) xr, fun a' ea => nomatch ea⟩
section
variable {X : Cx} {W : WX}
def msNil : MS := fun ε h => some (.nx ε, h)
def msSeq (a b : MS) : MS := fun ε h => match a ε h with
  | some (.nx ε1, h1) => b ε1 h1
  | some (r, h1) => some (r, h1)
  | none => none
theorem rss_nil : RSs X W [] msNil := by
  refine pss_imp pss_nil fun D σ H h => ?_
  obtain ⟨c, ε, h, r, h', hK, hm, rfl, sr, er, e, fin⟩ := h
  cases e
  exact fin c σ (.refl c) sr er
theorem seq_of {K : PySem.W.Frag} {mg : Str → Option Value} {m1 m2 : MS} {D : Ends} {σ : L2.St} {H : Hp} (h : tS K mg W (msSeq m1 m2) D σ H) : tSeq (tS K mg W m1) (tS K mg W m2) D σ H := by
  obtain ⟨c, ε, h, r, h', hK, hm, rfl, sr, er, e, fin⟩ := h
  unfold msSeq at e
  cases q : m1 ε h with
  | none => rw [q] at e; cases e
  | some z =>
    obtain ⟨r1, h1⟩ := z
    rw [q] at e
    refine ⟨c, ε, h, r1, h1, hK, hm, rfl, sr, er, q, ?_⟩
    cases r1 with
    | nx ε1 => exact fun c' σ' l s en => ⟨c', ε1, h1, r, h', l.K.trans hK, l.mg.trans hm, rfl, s, en, e, fin.le l⟩
    | rt d => cases e; exact fin
    | bk ε' => cases e; exact fin
    | ct ε' => cases e; exact fin
    | ex x ε' => cases e; exact fin
theorem rss_cons {st : Stmt} {rest : List Stmt} {m1 m2 : MS} (h1 : RSt X W st m1) (h2 : RSs X W rest m2) : RSs X W (st :: rest) (msSeq m1 m2) :=
  pss_imp (pss_cons h1 h2) fun _ _ _ h => seq_of h
theorem rss_one {st : Stmt} {m : MS} (h : RSt X W st m) : RSs X W [st] m := pss_one h
def msRet (a : M D) : MS := fun ε h => bS (a ε h) ε fun d h1 => some (.rt d, h1)
theorem rs_ret {e : Expr} {m : M D} {pos : Pos} (he : RE X W e m) : RSt X W (.Return (some e) pos) (msRet m) := by
  refine ps_imp (ps_ret he) fun D σ H h => ?_
  obtain ⟨c, ε, h, r, h', hK, hm, rfl, sr, er, e, fin⟩ := h
  unfold tRet
  refine tX.stm hK hm sr er e fin fun d h1 c1 v e1 l1 s1 r1 => ?_
  cases e1
  exact fin c1 v l1 s1 r1
def msRetN : MS := fun _ h => some (.rt .non, h)
theorem rs_retN {pos : Pos} : RSt X W (.Return none pos) msRetN := by
  refine ps_imp ps_retN fun D σ H h => ?_
  obtain ⟨c, ε, h, r, h', hK, hm, rfl, sr, er, e, fin⟩ := h
  cases e
  exact fin c _ (.refl c) sr .non
def msIf (t : M Bool) (a b : MS) : MS := fun ε h => bS (t ε h) ε fun k h1 => if k = true then a ε h1 else b ε h1
theorem rs_if {t : Expr} {a b : List Stmt} {mt : M Bool} {ma mb : MS} {pos : Pos} (ht : RT X W t mt) (ha : RSs X W a ma) (hb : RSs X W b mb) : RSt X W (.If t a b pos) (msIf mt ma mb) := by
  refine ps_imp (ps_if ht ha hb) fun D σ H h => ?_
  obtain ⟨c, ε, h, r, h', hK, hm, rfl, sr, er, e, fin⟩ := h
  unfold tIfS
  refine tX.stm hK hm sr er e fin fun k h1 c1 v e1 l1 s1 r1 => ?_
  subst r1
  cases k with
  | true => exact ⟨c1, ε, h1, r, h', l1.K.trans hK, l1.mg.trans hm, rfl, s1, er.le l1, e1, fin.le l1⟩
  | false => exact ⟨c1, ε, h1, r, h', l1.K.trans hK, l1.mg.trans hm, rfl, s1, er.le l1, e1, fin.le l1⟩
def msExpr (a : M D) : MS := fun ε h => bS (a ε h) ε fun _ h1 => some (.nx ε, h1)
theorem rs_expr {e : Expr} {m : M D} {pos : Pos} (he : RE X W e m) (hs : swapsWith e none pos.line X.env = pure false := by rfl) : RSt X W (.Expr e pos) (msExpr m) := by
  refine ps_imp (ps_expr he hs) fun D σ H h => ?_
  obtain ⟨c, ε, h, r, h', hK, hm, rfl, sr, er, e, fin⟩ := h
  unfold tDrop
  refine tX.stm hK hm sr er e fin fun k h1 c1 v e1 l1 s1 r1 => ?_
  cases e1
  exact fin c1 σ l1 s1 (er.le l1)
def msPass : MS := fun ε h => some (.nx ε, h)
def msBk : MS := fun ε h => some (.bk ε, h)
def msCt : MS := fun ε h => some (.ct ε, h)
theorem rs_pass {pos : Pos} : RSt X W (.Pass pos) msPass := by
  refine ps_imp ps_pass fun D σ H h => ?_
  obtain ⟨c, ε, h, r, h', hK, hm, rfl, sr, er, e, fin⟩ := h
  cases e
  exact fin c σ (.refl c) sr er
theorem rs_break {pos : Pos} : RSt X W (.Break pos) msBk := by
  refine ps_imp ps_break fun D σ H h => ?_
  obtain ⟨c, ε, h, r, h', hK, hm, rfl, sr, er, e, fin⟩ := h
  cases e
  exact fin c σ (.refl c) sr er
theorem rs_continue {pos : Pos} : RSt X W (.Continue pos) msCt := by
  refine ps_imp ps_continue fun D σ H h => ?_
  obtain ⟨c, ε, h, r, h', hK, hm, rfl, sr, er, e, fin⟩ := h
  cases e
  exact fin c σ (.refl c) sr er
/-- never come to -/
def msNo : MS := fun _ _ => none
theorem rs_no {st : Stmt} : RSt X W st msNo := ps_imp ps_never fun D σ H h => by
  obtain ⟨c, ε, h, r, h', hK, hm, rfl, sr, er, e, fin⟩ := h
  cases e
theorem rss_no {sts : List Stmt} : RSs X W sts msNo := pss_imp pss_never fun D σ H h => by
  obtain ⟨c, ε, h, r, h', hK, hm, rfl, sr, er, e, fin⟩ := h
  cases e
def mNo {α : Type} : M α := fun _ _ => none

/-! ### targets -/
abbrev MG := D → Ev → EH → Option (Ev × EH)
abbrev MGs := List D → Ev → EH → Option (Ev × EH)
/-- the slots but S are as they were -/
structure Save (S : List Nat) (σ σ' : L2.St) : Prop where
  len : σ'.length = σ.length
  at_ : ∀ i, i ∉ S → σ'[i]? = σ[i]?
theorem Save.refl {S : List Nat} {σ : L2.St} : Save S σ σ := ⟨rfl, fun _ _ => rfl⟩
def tG (K : PySem.W.Frag) (mg : Str → Option Value) (S : List Nat) (m : MG) : TG := fun v σ H Q => ∃ (c : RC) (d : D) (ε : Ev) (h : EH) (ε' : Ev) (h' : EH), c.K = K ∧ c.mg = mg ∧ c.H = H ∧ SR c h ∧ Rep c d v ∧ EnvR c ε σ ∧ m d ε h = some (ε', h') ∧ ∀ c' σ', c.Le c' → SR c' h' → EnvR c' ε' σ' → Save S σ σ' → Q σ' c'.H
def tGs (K : PySem.W.Frag) (mg : Str → Option Value) (S : List Nat) (m : MGs) : TGs := fun vs σ H Q => ∃ (c : RC) (ds : List D) (ε : Ev) (h : EH) (ε' : Ev) (h' : EH), c.K = K ∧ c.mg = mg ∧ c.H = H ∧ SR c h ∧ Reps c ds vs ∧ EnvR c ε σ ∧ m ds ε h = some (ε', h') ∧ ∀ c' σ', c.Le c' → SR c' h' → EnvR c' ε' σ' → Save S σ σ' → Q σ' c'.H
abbrev RG (X : Cx) (tg : Expr) (S : List Nat) (m : MG) : Prop := PG X tg (tG X.K X.mg S m)
abbrev RGs (X : Cx) (tgs : List Expr) (S : List Nat) (m : MGs) : Prop := PGs X tgs (tGs X.K X.mg S m)
theorem pg_imp {X : Cx} {tg : Expr} {t t' : TG} (h : PG X tg t) (k : ∀ v σ H Q, t' v σ H Q → t v σ H Q) : PG X tg t' := ⟨fun pins s σ H v u Q I r q => h.run pins s σ H v u Q I r (k v σ H Q q)⟩
theorem pgs_imp {X : Cx} {tg : List Expr} {t t' : TGs} (h : PGs X tg t) (k : ∀ v σ H Q, t' v σ H Q → t v σ H Q) : PGs X tg t' := ⟨fun pins s σ H v u Q I r q => h.run pins s σ H v u Q I r (k v σ H Q q)⟩
def mgName (i : Nat) : MG := fun d ε h => some (ε.set i (some d), h)
theorem rg_name (i : Nat) {x : Str} {pos : Pos} (hN : X.N.Nodup) (hi : X.N[i]? = some x := by rfl) (hx : Loc X.env.scope x := by first | exact Or.inl rfl | exact Or.inr rfl) (hf : X.fn x = true ∨ X.env.scope.names.lookup x = some .local := by first | exact .inl rfl | exact .inr rfl | assumption) : RG X (.Name x pos) [i] (mgName i) := by
  refine pg_imp (pg_name hN hi hx hf) fun v σ H Q h => ?_
  obtain ⟨c, d, ε, h, ε', h', hK, hm, rfl, sr, rv, er, e, go⟩ := h
  cases e
  exact go c _ (.refl c) sr (er.set rv i) ⟨List.length_set, fun j hj => List.getElem?_set_ne (fun z => hj (by simp [z]))⟩
def mgNil : MGs := fun ds ε h => match ds with
  | [] => some (ε, h)
  | _ :: _ => none
def mgCons (a : MG) (b : MGs) : MGs := fun ds ε h => match ds with
  | [] => none
  | d :: r => match a d ε h with
    | some (ε1, h1) => b r ε1 h1
    | none => none
theorem rgs_nil : RGs X [] [] mgNil := by
  refine pgs_imp pgs_nil fun vs σ H Q h => ?_
  obtain ⟨c, ds, ε, h, ε', h', hK, hm, rfl, sr, rv, er, e, go⟩ := h
  cases rv with
  | nil => cases e; exact ⟨rfl, go c σ (.refl c) sr er .refl⟩
  | cons _ _ => cases e
theorem rgs_cons {e : Expr} {es : List Expr} {S T : List Nat} {a : MG} {b : MGs} (h1 : RG X e S a) (h2 : RGs X es T b) (hs : (assignEach (e :: es) X.env).map (·.2) = assign e X.env :: (assignEach es X.env).map (·.2) := by rfl) : RGs X (e :: es) (S ++ T) (mgCons a b) := by
  refine pgs_imp (pgs_cons h1 h2 hs) fun vs σ H Q h => ?_
  obtain ⟨c, ds, ε, h, ε', h', hK, hm, rfl, sr, rv, er, e, go⟩ := h
  cases rv with
  | nil => cases e
  | @cons d ds v vs r t =>
    have e' : (match a d ε h with
      | some (ε1, h1) => b ds ε1 h1
      | none => none) = some (ε', h') := e
    cases q : a d ε h with
    | none => rw [q] at e'; cases e'
    | some z =>
      obtain ⟨ε1, h1⟩ := z
      rw [q] at e'
      exact ⟨v, vs, rfl, c, d, ε, h, ε1, h1, hK, hm, rfl, sr, r, er, q, fun c' σ' l s en sv => ⟨c', ds, ε1, h1, ε', h', l.K.trans hK, l.mg.trans hm, rfl, s, t.le l, en, e', fun c2 σ2 l2 s2 en2 sv2 => go c2 σ2 (l.trans l2) s2 en2
        ⟨sv2.len.trans sv.len, fun i hi => (sv2.at_ i fun z => hi (List.mem_append_right _ z)).trans (sv.at_ i fun z => hi (List.mem_append_left _ z))⟩⟩⟩
/-- (a, b, ..) = a tuple of that length -/
def mgTup (n : Nat) (ms : MGs) : MG := fun d ε h => match d with
  | .tup ds => if ds.length = n then ms ds ε h else none
  | _ => none
theorem rg_tup {es : List Expr} {k : Nat} {S : List Nat} {ms : MGs} {pos : Pos} {n : Nat} (hc : X.calm = true) (h : RGs X es S ms) (hn : (assignEach es X.env).length = n := by rfl) (hst : (assignEach es X.env).findIdx? (·.1) = none := by rfl) : RG X (.Tuple es k pos) S (mgTup n ms) := by
  refine pg_imp (pg_tup hc h hn hst) fun v σ H Q h => ?_
  obtain ⟨c, d, ε, h, ε', h', hK, hm, rfl, sr, rv, er, e, go⟩ := h
  cases rv with
  | @tup a ds xs k1 k2 =>
    have e' : (if ds.length = n then ms ds ε h else none) = some (ε', h') := e
    by_cases hl : ds.length = n
    · rw [if_pos hl] at e'
      exact ⟨a, xs, rfl, by rw [← hK]; exact k1, by rw [← k2.length]; exact hl, c, ds, ε, h, ε', h', hK, hm, rfl, sr, k2, er, e', go⟩
    · rw [if_neg hl] at e'; cases e'
  | _ => cases e
/-- o[i] = v, o a list cell -/
def putL (h : EH) (o i v : D) : Option EH := match o, i with
  | .ref n, .int k => (match h[n]? with
    | some (.lst ds) => (match ixN ds.length k with
      | some j => some (h.set n (.lst (ds.set j v)))
      | none => none)
    | _ => none)
  | _, _ => none
def mgSub (o i : M D) : MG := fun v ε h => match o ε h with
  | some (.ok x, h1) => (match i ε h1 with
    | some (.ok y, h2) => (putL h2 x y v).map fun h3 => (ε, h3)
    | _ => none)
  | _ => none
theorem rg_sub {o i : Expr} {mo mi : M D} {pos : Pos} {W : WX} (ho : RE X W o mo) (hi : RE X W i mi)
    (ha : ∀ v, assign (.Subscript o i pos) X.env v = (do
      let ov ← holding [v] (eval o X.env)
      let iv ← holding [v, ov] (eval i X.env)
      standAt pos
      holding [v, ov, iv] (setItem ov iv v)
      release [v, ov, iv] []) := by intro _; rfl) : RG X (.Subscript o i pos) [] (mgSub mo mi) := by
  refine pg_imp (pg_sub ho hi set_list ha) fun v σ H Q h => ?_
  obtain ⟨c, d, ε, h, ε', h', hK, hm, rfl, sr, rv, er, e, go⟩ := h
  unfold mgSub at e
  cases q : mo ε h with
  | none => rw [q] at e; cases e
  | some z =>
    obtain ⟨r1, h1⟩ := z
    cases r1 with
    | ex x => rw [q] at e; cases e
    | ok x =>
      rw [q] at e
      dsimp only at e
      refine ⟨c, ε, h, .ok x, h1, hK, hm, rfl, sr, er, q, Px.ok, fun x' ex c1 ov l1 s1 r1 => ?_⟩
      cases ex
      cases q2 : mi ε h1 with
      | none => rw [q2] at e; cases e
      | some z =>
        obtain ⟨r2, h2⟩ := z
        cases r2 with
        | ex x => rw [q2] at e; cases e
        | ok y =>
          rw [q2] at e
          dsimp only at e
          refine ⟨c1, ε, h1, .ok y, h2, l1.K.trans hK, l1.mg.trans hm, rfl, s1, er.le l1, q2, Px.ok, fun y' ey c2 iv l2 s2 r2 => ?_⟩
          cases ey
          cases q3 : putL h2 x y d with
          | none => rw [q3] at e; cases e
          | some h3 =>
            rw [q3] at e
            cases e
            cases r2 with
            | int k =>
              have r1' := r1.le l2
              cases r1' with
              | @ref n a hn =>
                unfold putL at q3
                dsimp only at q3
                cases q4 : h2[n]? with
                | none => rw [q4] at q3; cases q3
                | some cl =>
                  rw [q4] at q3
                  cases cl with
                  | lst ds =>
                    dsimp only at q3
                    obtain ⟨xs, e1, e2⟩ := s2.cells n a _ hn q4
                    cases q5 : ixN ds.length k with
                    | none => rw [q5] at q3; cases q3
                    | some j =>
                      rw [q5] at q3
                      cases q3
                      refine ⟨a, xs, k, j, rfl, rfl, e1, by rw [← e2.length]; exact q5, ?_⟩
                      have rv2 : Rep c2 d v := (rv.le l1).le l2
                      obtain ⟨l3, s3⟩ := s2.write (o := .lst (xs.set j v)) (k := .lst (ds.set j d)) hn (fun ys z => by
                        rcases z with z | ⟨u, z⟩ <;> rw [e1] at z <;> cases z) (fun o u z => by rw [e1] at z; cases z) fun c' l' eh => ⟨_, eh, (e2.le l').set (rv2.le l') j⟩
                      exact go _ σ ((l1.trans l2).trans l3) s3 (((er.le l1).le l2).le l3) .refl
                  | _ => cases q3
              | _ => cases q3
            | _ => cases x <;> cases q3

/-! ### assignments -/
def bG (x : Option (Ev × EH)) : Option (RS × EH) := x.map fun z => (.nx z.1, z.2)
def msAsg (a : M D) (g : MG) : MS := fun ε h => bS (a ε h) ε fun d h1 => bG (g d ε h1)
theorem asg_of {K : PySem.W.Frag} {mg : Str → Option Value} {a : M D} {g : MG} {S : List Nat} {D : Ends} {σ : L2.St} {H : Hp} (h : tS K mg W (msAsg a g) D σ H) : tAsg (tE K mg W a) (tG K mg S g) D σ H := by
  obtain ⟨c, ε, h, r, h', hK, hm, rfl, sr, er, e, fin⟩ := h
  unfold tAsg
  refine tX.stm hK hm sr er e fin fun d h1 c1 v e1 l1 s1 r1 => ?_
  cases q : g d ε h1 with
  | none => rw [q] at e1; cases e1
  | some z =>
    obtain ⟨ε2, h2⟩ := z
    rw [q] at e1
    cases e1
    exact ⟨c1, d, ε, h1, ε2, _, l1.K.trans hK, l1.mg.trans hm, rfl, s1, r1, er.le l1, q, fun c' σ' l s en _ => fin c' σ' (l1.trans l) s en⟩
theorem rs_asg {tg e : Expr} {m : M D} {g : MG} {S : List Nat} {pos : Pos} (he : RE X W e m) (hg : RG X tg S g) (hs : swapsWithSole [tg] e pos.line X.env = pure false := by rfl) (hw : swappedStores [tg] e X.env = pure none := by rfl)
    (h1 : (assignEach [tg] X.env).map (·.2) = [assign tg X.env] := by rfl) : RSt X W (.Assign [tg] e pos) (msAsg m g) := ps_imp (ps_asg he hg hs hw h1) fun _ _ _ h => asg_of h
theorem rs_set (i : Nat) {x : Str} {e : Expr} {m : M D} {pos pos' : Pos} (hN : X.N.Nodup) (he : RE X W e m) (hi : X.N[i]? = some x := by rfl) (hx : Loc X.env.scope x := by first | exact Or.inl rfl | exact Or.inr rfl) (hs : swapsWith e (some (.Name x pos')) pos.line X.env = pure false := by rfl)
    (hf : X.fn x = true ∨ X.env.scope.names.lookup x = some .local := by first | exact .inl rfl | exact .inr rfl | assumption) : RSt X W (.Assign [.Name x pos'] e pos) (msAsg m (mgName i)) := by
  refine ps_imp (ps_set hN hi hx he hs hf) fun D σ H h => ?_
  obtain ⟨c, ε, h, r, h', hK, hm, rfl, sr, er, e, fin⟩ := h
  unfold tAsg
  refine tX.stm hK hm sr er e fin fun d h1 c1 v e1 l1 s1 r1 => ?_
  cases e1
  exact fin c1 _ l1 s1 ((er.le l1).set r1 i)
/-- a, b = x, y with plain local names -/
def msPar (i j : Nat) (m : M (List D)) : MS := fun ε h => bS (m ε h) ε fun ds h1 => match ds with
  | [d, e] => some (.nx ((ε.set i (some d)).set j (some e)), h1)
  | _ => none
theorem rs_par (i j : Nat) {x y : Str} {a b : Expr} {m : M (List D)} {px py pt pos : Pos} {kt k2 pt2} (hc : X.calm = true) (hN : X.N.Nodup) (ha : RA X W [a, b] m) (hi : X.N[i]? = some x := by rfl) (hj : X.N[j]? = some y := by rfl) (hij : i ≠ j := by decide)
    (hx : X.env.scope.names.lookup x = some .local := by rfl) (hy : X.env.scope.names.lookup y = some .local := by rfl) (hw : swappedStores [.Tuple [.Name x px, .Name y py] kt pt] (.Tuple [a, b] k2 pt2) X.env = pure (some [x, y]) := by rfl)
    (hs : swapsWithSole [.Tuple [.Name x px, .Name y py] kt pt] (.Tuple [a, b] k2 pt2) pos.line X.env = pure false := by rfl) : RSt X W (.Assign [.Tuple [.Name x px, .Name y py] kt pt] (.Tuple [a, b] k2 pt2) pos) (msPar i j m) := by
  refine ps_imp (ps_par hc hN hi hj hij hx hy ha hw hs) fun D σ H h => ?_
  obtain ⟨c, ε, h, r, h', hK, hm, rfl, sr, er, e, fin⟩ := h
  unfold tPar
  refine tX.stm hK hm sr er e fin fun ds h1 c1 vs e1 l1 s1 r1 => ?_
  match ds, r1, e1 with
  | [d, e], .cons q1 (.cons q2 .nil), e1 =>
    cases e1
    exact ⟨_, _, rfl, fin c1 _ l1 s1 (((er.le l1).set q1 i).set q2 j)⟩
  | [], _, e1 => cases e1
  | [_], _, e1 => cases e1
  | _ :: _ :: _ :: _, _, e1 => cases e1
end
end PD

namespace PD
open PySem PySem.Spec PyProof.Rows L2

/-! ### what is walked -/
/-- the walk J gives ds -/
def WalkR (c : RC) (ds : List D) (J : It) : Prop := ∃ (G : Hp → Prop) (Y : Nat → Hp → V → Hp → Prop), Walk J ds.length G Y ∧ (∀ c', c.Le c' → G c'.H) ∧
  ∀ (i : Nat) (x : V) (c' : RC) (h : EH) (H' : Hp), c.Le c' → SR c' h → Y i c'.H x H' → ∃ c'', c''.H = H' ∧ c'.Le c'' ∧ SR c'' h ∧ ∃ d, ds[i]? = some d ∧ Rep c'' d x
theorem WalkR.le {c c1 : RC} {ds : List D} {J : It} (w : WalkR c ds J) (l : c.Le c1) : WalkR c1 ds J := by
  obtain ⟨G, Y, hw, hG, hY⟩ := w
  exact ⟨G, Y, hw, fun c' l' => hG c' (l.trans l'), fun i x c' h H' l' => hY i x c' h H' (l.trans l')⟩
def tI (K : PySem.W.Frag) (mg : Str → Option Value) (W : WX) (m : M (List D)) : TI := tX WalkR K mg W m
abbrev RI (X : Cx) (W : WX) (tg it : Expr) (m : M (List D)) : Prop := PI X tg it (tI X.K X.mg W m)
theorem pi_imp {X : Cx} {tg it : Expr} {t t' : TI} (h : PI X tg it t) (k : ∀ σ H Q, t' σ H Q → t σ H Q) : PI X tg it t' := ⟨fun pins s σ H R I q => h.run pins s σ H R I (k σ H R q)⟩
theorem walkR_list {c : RC} {a : Addr} {ds : List D} {xs : List V} (h : ∀ c', c.Le c' → SqL c.K c'.H a xs) (r : Reps c ds xs) : WalkR c ds (Itl c.K a) := by
  refine ⟨fun H => SqL c.K H a xs, YAt xs, ?_, h, fun i x c' h H' l s y => ?_⟩
  · rw [r.length]; exact walk_list
  · obtain ⟨rfl, e⟩ := y
    obtain ⟨d, h1, h2⟩ := (r.le l).getV e
    exact ⟨c', rfl, .refl c', s, d, h1, h2⟩
theorem walkR_tup {c : RC} {a : Addr} {ds : List D} {xs : List V} (h : SqT c.K c.H a xs) (r : Reps c ds xs) : WalkR c ds (Itt c.K a) := by
  refine ⟨fun H => SqT c.K H a xs, YAt xs, ?_, fun c' l => by rw [← l.K]; exact l.sqT h, fun i x c' h H' l s y => ?_⟩
  · rw [r.length]; exact walk_tup
  · obtain ⟨rfl, e⟩ := y
    obtain ⟨d, h1, h2⟩ := (r.le l).getV e
    exact ⟨c', rfl, .refl c', s, d, h1, h2⟩
def miL (a : M D) : M (List D) := fun ε h => bR (a ε h) fun x h1 => match x with
  | .lst ds => some (.ok ds, h1)
  | .scr ds => some (.ok ds, h1)
  | _ => none
def miT (a : M D) : M (List D) := fun ε h => bR (a ε h) fun x h1 => match x with
  | .tup ds => some (.ok ds, h1)
  | _ => none
def miS (a : M D) : M (List D) := fun ε h => bR (a ε h) fun x h1 => match x with
  | .str z => some (.ok (z.map fun c => .str [c]), h1)
  | _ => none
section
variable {X : Cx} {W : WX} {tg : Expr}
theorem ri_list {e : Expr} {m : M D} (he : RE X W e m) : RI X W tg e (miL m) := by
  refine pi_imp (pi_list he) fun σ H R h => ?_
  obtain ⟨c, ε, h, r, h', hK, hm, rfl, sr, er, e, px, go⟩ := h
  unfold iList
  refine tX.bind hK hm sr er e px fun d h1 c1 v e1 l1 s1 r1 => ?_
  cases r1 with
  | @lst a ds xs k1 k2 k3 =>
    cases e1
    refine ⟨a, rfl, ⟨xs, .inl (.inl k1)⟩, go _ rfl c1 _ l1 s1 ?_⟩
    rw [← hK, ← l1.K]
    exact walkR_list (fun c' l => .inl (.inl (l.lstH k1 k2).1)) k3
  | @scr a ds xs k1 k2 =>
    cases e1
    refine ⟨a, rfl, ⟨xs, by rw [← hK, ← l1.K]; exact k1.sq⟩, go _ rfl c1 _ l1 s1 ?_⟩
    rw [← hK, ← l1.K]
    exact walkR_list (fun c' l => by rw [← l.K]; exact (l.scrL k1).sq) k2
  | _ => cases e1
theorem ri_tup {e : Expr} {m : M D} (he : RE X W e m) : RI X W tg e (miT m) := by
  refine pi_imp (pi_tup he) fun σ H R h => ?_
  obtain ⟨c, ε, h, r, h', hK, hm, rfl, sr, er, e, px, go⟩ := h
  unfold iTup
  refine tX.bind hK hm sr er e px fun d h1 c1 v e1 l1 s1 r1 => ?_
  cases r1 with
  | @tup a ds xs k1 k2 =>
    cases e1
    refine ⟨a, rfl, ⟨xs, by rw [← hK, ← l1.K]; exact k1⟩, go _ rfl c1 _ l1 s1 ?_⟩
    rw [← hK, ← l1.K]
    exact walkR_tup k1 k2
  | _ => cases e1
theorem ri_str {e : Expr} {m : M D} (he : RE X W e m) : RI X W tg e (miS m) := by
  refine pi_imp (pi_str he) fun σ H R h => ?_
  obtain ⟨c, ε, h, r, h', hK, hm, rfl, sr, er, e, px, go⟩ := h
  unfold iStr
  refine tX.bind hK hm sr er e px fun d h1 c1 v e1 l1 s1 r1 => ?_
  cases r1 with
  | str z =>
    cases e1
    refine ⟨_, rfl, go _ rfl c1 _ l1 s1 ⟨fun _ => True, fun i H v H' => H' = H ∧ ∃ c, (⟨z.toArray⟩ : Str).cps[i]? = some c ∧ v = .str ⟨#[c]⟩, ?_, fun _ _ => trivial, fun i x c' h H' l s y => ?_⟩⟩
    · have w := walk_str (z := (⟨z.toArray⟩ : Str))
      rw [List.length_map]
      exact w
    · obtain ⟨rfl, k, h1, rfl⟩ := y
      refine ⟨c', rfl, .refl c', s, .str [k], ?_, .str [k]⟩
      have h1' : z[i]? = some k := by simpa using h1
      rw [List.getElem?_map, h1']
      rfl
  | _ => cases e1
/-- range(n) -/
def rngD (lo : Int) (n : Nat) : List D := (List.range n).map fun i => .int (lo + (i : Nat))
def miR1 (a : M (List D)) : M (List D) := fun ε h => bR (a ε h) fun xs h1 => match xs with
  | [.int j] => if -(2 ^ 62) ≤ j ∧ j < 2 ^ 62 then some (.ok (rngD 0 j.toNat), h1) else none
  | _ => none
def miR2 (a : M (List D)) : M (List D) := fun ε h => bR (a ε h) fun xs h1 => match xs with
  | [.int i, .int j] => if -(2 ^ 62) ≤ i ∧ i < 2 ^ 62 ∧ -(2 ^ 62) ≤ j ∧ j < 2 ^ 62 then some (.ok (rngD i (j - i).toNat), h1) else none
  | _ => none
theorem walkR_range {c : RC} (lo : Int) (n : Nat) : WalkR c (rngD lo n) (Itr lo n) := by
  refine ⟨fun _ => True, fun i H x H' => i < n ∧ H' = H ∧ x = .int (lo + (i : Nat)), ?_, fun _ _ => trivial, fun i x c' h H' l s y => ?_⟩
  · have w := walk_range (lo := lo) (n := n)
    have e : (rngD lo n).length = n := by simp [rngD]
    rw [e]
    exact ⟨w.goes, w.stops, fun i H x H' hi g y => (show i < n ∧ H' = H ∧ x = .int (lo + (i : Nat)) from ⟨hi, w.yields i H x H' hi g y⟩)⟩
  · obtain ⟨hi, rfl, rfl⟩ := y
    refine ⟨c', rfl, .refl c', s, .int (lo + (i : Nat)), ?_, .int _⟩
    unfold rngD
    rw [List.getElem?_map, List.getElem?_range hi]
    rfl
theorem ri_range1 {a : Expr} {ma : M (List D)} {p pos : Pos} (hm : X.mg "range" = none) (ha : RA X W [a] ma) (hg : Gl X "range" := by rfl) (hs : starEach [a] X.env = [(false, eval a X.env)] := by rfl) : RI X W tg (.Call (.Name "range" p) [a] [] pos) (miR1 ma) := by
  refine pi_imp (pi_range1 hg hm ha hs) fun σ H R h => ?_
  obtain ⟨c, ε, h, r, h', hK, hm, rfl, sr, er, e, px, go⟩ := h
  unfold iRng1
  refine tX.bind hK hm sr er e px fun ds h1 c1 vs e1 l1 s1 r1 => ?_
  cases r1 with
  | nil => cases e1
  | cons q t =>
    cases q with
    | int j =>
      cases t with
      | nil =>
        have e' : (if -(2 ^ 62) ≤ j ∧ j < 2 ^ 62 then some (PD.R.ok (rngD 0 j.toNat), h1) else none) = some (r, h') := e1
        by_cases hc : -(2 ^ 62) ≤ j ∧ j < 2 ^ 62
        · rw [if_pos hc] at e'
          cases e'
          exact ⟨j, rfl, hc.1, hc.2, go _ rfl c1 _ l1 s1 (walkR_range 0 j.toNat)⟩
        · rw [if_neg hc] at e'; cases e'
      | cons _ _ => cases e1
    | _ => cases e1
theorem ri_range2 {a b : Expr} {ma : M (List D)} {p pos : Pos} (hm : X.mg "range" = none) (ha : RA X W [a, b] ma) (hg : Gl X "range" := by rfl) (hs : starEach [a, b] X.env = [(false, eval a X.env), (false, eval b X.env)] := by rfl) (hs2 : starEach [b] X.env = [(false, eval b X.env)] := by rfl) : RI X W tg (.Call (.Name "range" p) [a, b] [] pos) (miR2 ma) := by
  refine pi_imp (pi_range2 hg hm ha hs hs2) fun σ H R h => ?_
  obtain ⟨c, ε, h, r, h', hK, hm, rfl, sr, er, e, px, go⟩ := h
  unfold iRng2
  refine tX.bind hK hm sr er e px fun ds h1 c1 vs e1 l1 s1 r1 => ?_
  cases r1 with
  | nil => cases e1
  | cons q t =>
    cases q with
    | int i =>
      cases t with
      | nil => cases e1
      | cons q t =>
        cases q with
        | int j =>
          cases t with
          | nil =>
            have e' : (if -(2 ^ 62) ≤ i ∧ i < 2 ^ 62 ∧ -(2 ^ 62) ≤ j ∧ j < 2 ^ 62 then some (PD.R.ok (rngD i (j - i).toNat), h1) else none) = some (r, h') := e1
            by_cases hc : -(2 ^ 62) ≤ i ∧ i < 2 ^ 62 ∧ -(2 ^ 62) ≤ j ∧ j < 2 ^ 62
            · rw [if_pos hc] at e'
              cases e'
              exact ⟨i, j, rfl, hc, go _ rfl c1 _ l1 s1 (walkR_range i _)⟩
            · rw [if_neg hc] at e'; cases e'
          | cons _ _ => cases e1
        | _ => cases e1
    | _ => cases e1
/-- pairs, each a new tuple -/
theorem walkR_pair {c : RC} {J : It} {G : Hp → Prop} {f g : Nat → Option V} {ds : List D} (w : Walk J ds.length G (YPair f g)) (hG : ∀ c', c.Le c' → G c'.H)
    (hd : ∀ (i : Nat) (x y : V) (c' : RC), c.Le c' → f i = some x → g i = some y → ∃ d e, ds[i]? = some (.tup [d, e]) ∧ Rep c' d x ∧ Rep c' e y) : WalkR c ds J := by
  refine ⟨G, _, w, hG, fun i v c' h H' l s y => ?_⟩
  obtain ⟨T, x, z, rfl, hT, rfl, h1, h2⟩ := y
  obtain ⟨d, e, e1, r1, r2⟩ := hd i x z c' l h1 h2
  obtain ⟨l', s', f'⟩ := s.new (o := .tup [x, z]) hT
  exact ⟨c'.put T (.tup [x, z]), rfl, l', s', _, e1, .tup (.inl (.inl upd_same)) (.cons (r1.le l') (.cons (r2.le l') .nil))⟩
def zipD (as bs : List D) : List D := (as.zip bs).map fun p => .tup [p.1, p.2]
def miZip (a : M (List D)) : M (List D) := fun ε h => bR (a ε h) fun xs h1 => match xs with
  | [x, y] => (match x, y with
    | .lst as, .lst bs => some (.ok (zipD as bs), h1)
    | .tup as, .tup bs => some (.ok (zipD as bs), h1)
    | _, _ => none)
  | _ => none
theorem zip_at {c : RC} {as bs : List D} {xs ys : List V} (ra : Reps c as xs) (rb : Reps c bs ys) (i : Nat) (x y : V) (c' : RC) (l : c.Le c') (e1 : xs[i]? = some x) (e2 : ys[i]? = some y) : ∃ d e, (zipD as bs)[i]? = some (.tup [d, e]) ∧ Rep c' d x ∧ Rep c' e y := by
  obtain ⟨d, h1, r1⟩ := ra.getV e1
  obtain ⟨e, h2, r2⟩ := rb.getV e2
  refine ⟨d, e, ?_, r1.le l, r2.le l⟩
  unfold zipD
  rw [List.getElem?_map, List.getElem?_zip_eq_some.mpr (show as[i]? = some (d, e).1 ∧ bs[i]? = some (d, e).2 from ⟨h1, h2⟩)]
  rfl
theorem ri_zip {e e2 : Expr} {ma : M (List D)} {p pos tpos : Pos} {elts : List Expr} {kk : Nat} (hm : X.mg "zip" = none) (ha : RA X W [e, e2] ma) (hg : Gl X "zip" := by rfl)
    (hs : starEach [e, e2] X.env = (false, eval e X.env) :: starEach [e2] X.env := by rfl) (hpl : (backTo pos (starEach [e2] X.env)).any (·.1) = false := by rfl) : RI X W (.Tuple elts kk tpos) (.Call (.Name "zip" p) [e, e2] [] pos) (miZip ma) := by
  refine pi_imp (RZ.pi_zipA hg hm ha hs hpl) fun σ H R h => ?_
  obtain ⟨c, ε, h, r, h', hK, hm, rfl, sr, er, e, px, go⟩ := h
  unfold RZ.iZipA
  refine tX.bind hK hm sr er e px fun ds h1 c1 vs e1 l1 s1 r1 => ?_
  have hK1 : c1.K = X.K := l1.K.trans hK
  match ds, r1, e1 with
  | [d1, d2], .cons q1 (.cons q2 .nil), e1 =>
    cases q1 with
    | @lst a as xs k1 k2 k3 =>
      cases q2 with
      | @lst b bs ys j1 j2 j3 =>
        cases e1
        refine ⟨a, b, xs, ys, rfl, .inl ⟨.inl (.inl k1), .inl (.inl j1), go _ rfl c1 _ l1 s1 (walkR_pair (G := fun H => SqL X.K H a xs ∧ SqL X.K H b ys) (walk_zip ?_) (fun c' l => ⟨.inl (.inl (l.lstH k1 k2).1), .inl (.inl (l.lstH j1 j2).1)⟩) (zip_at k3 j3))⟩⟩
        simp [zipD, k3.length, j3.length]
      | _ => cases e1
    | @tup a as xs k1 k2 =>
      cases q2 with
      | @tup b bs ys j1 j2 =>
        cases e1
        have w : Walk (RZ.ItzT X.K a b) (zipD as bs).length (fun H => SqT X.K H a xs ∧ SqT X.K H b ys) (YPair (fun i => xs[i]?) (fun i => ys[i]?)) := by
          have en : (zipD as bs).length = min xs.length ys.length := by simp [zipD, k2.length, j2.length]
          rw [en]
          refine ⟨fun i _ hi q => ?_, fun _ q => ⟨xs, ys, q.1, q.2, by omega⟩, fun i H v H' _ q y => ?_⟩
          · have h1 : i < xs.length := by omega
            have h2 : i < ys.length := by omega
            exact ⟨xs, ys, xs[i], ys[i], q.1, q.2, by simp [h1], by simp [h2]⟩
          · obtain ⟨T, x, z, h1, h2, h3, h4, h5⟩ := y
            exact ⟨T, x, z, h1, h2, h3, h4 xs q.1, h5 ys q.2⟩
        refine ⟨a, b, xs, ys, rfl, .inr ⟨by rw [← hK1]; exact k1, by rw [← hK1]; exact j1, go _ rfl c1 _ l1 s1 (walkR_pair w (fun c' l => ?_) (zip_at k2 j2))⟩⟩
        rw [← hK1, ← l.K]
        exact ⟨l.sqT k1, l.sqT j1⟩
      | _ => cases e1
    | _ => cases e1
  | [], _, e1 => cases e1
  | [_], _, e1 => cases e1
  | _ :: _ :: _ :: _, _, e1 => cases e1
def enumD (as : List D) : List D := as.zipIdx.map fun p => .tup [.int (p.2 : Nat), p.1]
def miEnum (a : M (List D)) : M (List D) := fun ε h => bR (a ε h) fun xs h1 => match xs with
  | [x] => (match x with
    | .lst as => some (.ok (enumD as), h1)
    | _ => none)
  | _ => none
theorem ri_enum {e : Expr} {ma : M (List D)} {p pos tpos : Pos} {elts : List Expr} {kk : Nat} (hm : X.mg "enumerate" = none) (ha : RA X W [e] ma) (hg : Gl X "enumerate" := by rfl) (hs : starEach [e] X.env = [(false, eval e X.env)] := by rfl) : RI X W (.Tuple elts kk tpos) (.Call (.Name "enumerate" p) [e] [] pos) (miEnum ma) := by
  refine pi_imp (pi_enum hg hm ha hs) fun σ H R h => ?_
  obtain ⟨c, ε, h, r, h', hK, hm, rfl, sr, er, e, px, go⟩ := h
  unfold iEnum
  refine tX.bind hK hm sr er e px fun ds h1 c1 vs e1 l1 s1 r1 => ?_
  match ds, r1, e1 with
  | [d1], .cons q1 .nil, e1 =>
    cases q1 with
    | @lst a as xs k1 k2 k3 =>
      cases e1
      refine ⟨a, xs, rfl, .inl (.inl k1), go _ rfl c1 _ l1 s1 (walkR_pair (G := fun H => SqL X.K H a xs) (f := fun i => some (V.int (i : Nat))) (g := fun i => xs[i]?) ?_ (fun c' l => .inl (.inl (l.lstH k1 k2).1)) fun i x y c' l e1 e2 => ?_)⟩
      · have en : (enumD as).length = xs.length := by simp [enumD, k3.length]
        rw [en]
        exact walk_enum
      · cases e1
        obtain ⟨d, h1, r1⟩ := k3.getV e2
        refine ⟨.int (i : Nat), d, ?_, .int _, r1.le l⟩
        unfold enumD
        rw [List.getElem?_map, List.getElem?_zipIdx, h1]
        simp
    | _ => cases e1
  | [], _, e1 => cases e1
  | _ :: _ :: _, _, e1 => cases e1

/-! ### for -/
def forL (g : MG) (b : MS) : List D → Ev → EH → Option (RS × EH)
  | [], ε, h => some (.nx ε, h)
  | d :: ds, ε, h => match g d ε h with
    | none => none
    | some (ε1, h1) => match b ε1 h1 with
      | some (.nx ε2, h2) => forL g b ds ε2 h2
      | some (.ct ε2, h2) => forL g b ds ε2 h2
      | some (.bk ε2, h2) => some (.nx ε2, h2)
      | some (.rt d, h2) => some (.rt d, h2)
      | some (.ex e ε2, h2) => some (.ex e ε2, h2)
      | none => none
def msFor (it : M (List D)) (g : MG) (b : MS) : MS := fun ε h => bS (it ε h) ε fun ds h1 => forL g b ds ε h1
theorem rs_for {iter : Expr} {body : List Stmt} {mi : M (List D)} {g : MG} {S : List Nat} {b : MS} {pos : Pos} (hp : PassesOwn (model X.prog X.w) X.A X.env X.xe) (hc : X.calm = true) (hi : RI X W tg iter mi) (hg : RG X tg S g) (hb : RSs X W body b)
    (hs : ∀ x, foldedSetIterable iter X.env x = pure x := by intro _; rfl) : RSt X W (.For tg iter body [] pos) (msFor mi g b) := by
  refine ps_imp (ps_for hp hc hi hg hb hs) fun D σ H h => ?_
  obtain ⟨c, ε, h, r, h', hK, hm, rfl, sr, er, e, fin⟩ := h
  unfold tFor
  refine tX.stm hK hm sr er e fin fun ds h1 c1 J e1 l1 s1 r1 => ?_
  obtain ⟨G, Y, hw, hG, hY⟩ := r1
  have hK1 := l1.K.trans hK
  have hm1 := l1.mg.trans hm
  refine for_it hw (fun i σ H => ∃ c2 ε2 h2, c1.Le c2 ∧ c2.H = H ∧ SR c2 h2 ∧ EnvR c2 ε2 σ ∧ forL g b (ds.drop i) ε2 h2 = some (r, h')) ⟨c1, ε, h1, .refl c1, rfl, s1, er.le l1, by simpa using e1⟩ ?_ ?_ ?_
  · rintro i σ H hi ⟨c2, ε2, h2, l2, rfl, _⟩
    exact hG c2 l2
  · rintro i x σ H H' hi ⟨c2, ε2, h2, l2, rfl, s2, en2, e2⟩ y
    obtain ⟨c3, rfl, l3, s3, d, hd, rd⟩ := hY i x c2 h2 H' l2 s2 y
    have hdr : ds.drop i = d :: ds.drop (i + 1) := by
      rw [List.drop_eq_getElem_cons hi]
      have : ds[i] = d := by
        have := List.getElem?_eq_getElem hi
        rw [this] at hd
        exact Option.some.inj hd
      rw [this]
    rw [hdr] at e2
    unfold forL at e2
    cases q : g d ε2 h2 with
    | none => rw [q] at e2; cases e2
    | some z =>
      obtain ⟨ε3, h3⟩ := z
      rw [q] at e2
      dsimp only at e2
      refine ⟨c3, d, ε2, h2, ε3, h3, ((l3.K.trans l2.K).trans hK1), ((l3.mg.trans l2.mg).trans hm1), rfl, s3, rd, en2.le l3, q, fun c4 σ4 l4 s4 en4 _ => ?_⟩
      have L4 := (l2.trans l3).trans l4
      cases q2 : b ε3 h3 with
      | none => rw [q2] at e2; cases e2
      | some z =>
        obtain ⟨rb, h5⟩ := z
        rw [q2] at e2
        refine ⟨c4, ε3, h3, rb, h5, L4.K.trans hK1, L4.mg.trans hm1, rfl, s4, en4, q2, ?_⟩
        cases rb with
        | nx ε5 => exact fun c5 σ5 l5 s5 en5 => ⟨c5, ε5, h5, L4.trans l5, rfl, s5, en5, e2⟩
        | ct ε5 => exact fun c5 σ5 l5 s5 en5 => ⟨c5, ε5, h5, L4.trans l5, rfl, s5, en5, e2⟩
        | bk ε5 => cases e2; exact (fin.le (l1.trans L4))
        | rt d5 => cases e2; exact (fin.le (l1.trans L4))
        | ex x5 ε5 => cases e2; exact (fin.le (l1.trans L4))
  · rintro σ H ⟨c2, ε2, h2, l2, rfl, s2, en2, e2⟩
    rw [List.drop_length] at e2
    cases e2
    exact fin c2 σ (l1.trans l2) s2 en2
end
end PD

namespace PD
open PySem PySem.Spec PyProof.Rows L2

/-! ### list comprehensions -/
/-- nothing is let out -/
abbrev W0 : WX := fun _ _ _ _ => False
def wipeE (ε : Ev) : List Nat → Ev
  | [] => ε
  | i :: r => (wipeE ε r).set i none
theorem wipe_envR {c : RC} : ∀ (vs : List Nat) {ε : Ev} {σ : L2.St}, EnvR c ε σ → EnvR c (wipeE ε vs) (wipe σ vs)
  | [], _, _, r => r
  | i :: vs, ε, σ, r => by
    have ih := wipe_envR vs r
    unfold wipeE wipe
    refine ⟨by rw [List.length_set, List.length_set]; exact ih.len, fun j d h => ?_⟩
    by_cases hj : i = j
    · subst hj
      have hi : i < (wipeE ε vs).length := by
        have := (List.getElem?_eq_some_iff.mp h).1
        rwa [List.length_set] at this
      rw [List.getElem?_set_self hi] at h
      cases h
    · rw [List.getElem?_set_ne hj] at h
      rw [List.getElem?_set_ne hj]
      exact ih.at_ j d h
theorem wipe_in {i : Nat} : ∀ {vs : List Nat} {σ : L2.St}, i ∈ vs → i < σ.length → (wipe σ vs)[i]? = some none
  | v :: vs, σ, hi, hl => by
    unfold wipe
    by_cases e : v = i
    · subst e
      rw [List.getElem?_set_self (by rw [wipe_length]; exact hl)]
    · rw [List.getElem?_set_ne e]
      exact wipe_in ((List.mem_cons.mp hi).resolve_left fun z => e z.symm) hl
theorem wipe_save {S vs : List Nat} {σ σ' : L2.St} (s : Save S (wipe σ vs) σ') (h : ∀ i ∈ S, i ∈ vs) : wipe σ' vs = wipe σ vs := by
  have hl : σ'.length = σ.length := by rw [s.len, wipe_length]
  refine List.ext_getElem? fun i => ?_
  by_cases hi : i ∈ vs
  · by_cases hb : i < σ.length
    · rw [wipe_in hi (by rw [hl]; exact hb), wipe_in hi hb]
    · rw [List.getElem?_eq_none (by rw [wipe_length, hl]; omega), List.getElem?_eq_none (by rw [wipe_length]; omega)]
  · rw [wipe_out hi, s.at_ i fun z => hi (h i z)]
/-- the tests of a clause -/
abbrev RTs (X : Cx) (W : WX) (ifs : List Expr) (m : M Bool) : Prop := PTs X ifs (tT X.K X.mg W m)
def mYes : M Bool := fun _ h => some (.ok true, h)
theorem pts_imp {X : Cx} {ifs : List Expr} {t t' : TT} (h : PTs X ifs t) (k : ∀ σ H Q, t' σ H Q → t σ H Q) : PTs X ifs t' := ⟨fun pins s σ H Q I q => h.run pins s σ H Q I (k σ H Q q)⟩
theorem rts_nil {X : Cx} {W : WX} : RTs X W [] mYes := by
  refine pts_imp pts_nil fun σ H Q h => ?_
  obtain ⟨c, ε, h, r, h', hK, hm, rfl, sr, er, e, px, go⟩ := h
  cases e
  exact go _ rfl c _ (.refl c) sr rfl
theorem rts_one {X : Cx} {W : WX} {e : Expr} {m : M Bool} (h : RT X W e m) : RTs X W [e] m := pts_one h
/-- the items of a comprehension; nothing is raised within -/
def lcL (g : MG) (t : M Bool) (e : M D) : List D → Ev → EH → Option (List D × EH)
  | [], _, h => some ([], h)
  | d :: ds, ε, h => match g d ε h with
    | none => none
    | some (ε1, h1) => match t ε1 h1 with
      | some (.ok true, h2) => (match e ε1 h2 with
        | some (.ok y, h3) => (match lcL g t e ds ε h3 with
          | some (ys, h4) => some (y :: ys, h4)
          | none => none)
        | _ => none)
      | some (.ok false, h2) => lcL g t e ds ε h2
      | _ => none
def okL (x : Option (List D × EH)) : O D := match x with
  | some (ds, h) => if ds.length ≤ sizeLine then some (.ok (.lst ds), h) else none
  | none => none
def mLc (vs : List Nat) (it : M (List D)) (g : MG) (t : M Bool) (e : M D) : M D := fun ε h => bR (it ε h) fun ds h1 => okL (lcL g t e ds (wipeE ε vs) h1)

/-- other things not to be touched -/
abbrev RC.av (c : RC) (B : Addr → Prop) : RC := { c with B := B }
mutual
theorem Rep.fewer {c : RC} {B : Addr → Prop} (hB : ∀ a, B a → c.B a) : ∀ {d : D} {v : V}, Rep c d v → Rep (c.av B) d v
  | _, _, .non => .non
  | _, _, .bl b => .bl b
  | _, _, .int i => .int i
  | _, _, .str cs => .str cs
  | _, _, .tup h r => .tup h (Reps.fewer hB r)
  | _, _, .lst h f r => .lst h ⟨fun z => f.1 (hB _ z), f.2⟩ (Reps.fewer hB r)
  | _, _, .scr h r => .scr h (Reps.fewer hB r)
  | _, _, .obj m h f r => .obj m h ⟨fun z => f.1 (hB _ z), f.2⟩ (RepF.fewer hB r)
  | _, _, .dic h i f r => .dic h i ⟨fun z => f.1 (hB _ z), f.2⟩ (RepP.fewer hB r)
  | _, _, .ref h => .ref h
theorem Reps.fewer {c : RC} {B : Addr → Prop} (hB : ∀ a, B a → c.B a) : ∀ {ds : List D} {vs : List V}, Reps c ds vs → Reps (c.av B) ds vs
  | _, _, .nil => .nil
  | _, _, .cons h t => .cons (Rep.fewer hB h) (Reps.fewer hB t)
theorem RepP.fewer {c : RC} {B : Addr → Prop} (hB : ∀ a, B a → c.B a) : ∀ {ds : List (List Key × D)} {vs : List (List Key × V)}, RepP c ds vs → RepP (c.av B) ds vs
  | _, _, .nil => .nil
  | _, _, .cons h t => .cons (Rep.fewer hB h) (RepP.fewer hB t)
theorem RepF.fewer {c : RC} {B : Addr → Prop} (hB : ∀ a, B a → c.B a) : ∀ {ds : List (Str × D)} {vs : List (Str × V)}, RepF c ds vs → RepF (c.av B) ds vs
  | _, _, .nil => .nil
  | _, _, .cons h t => .cons (Rep.fewer hB h) (RepF.fewer hB t)
end
/-- c before the list at p was laid, c' with the list not to be touched -/
structure Over (c c' : RC) (p : Addr) : Prop where
  le : c.Le c'
  Bp : c'.B p
  new : c.H p = none
  bt : ∀ a, c.B a → ∃ o, c.H a = some o
theorem Over.step {c c' c'' : RC} {p : Addr} (o : Over c c' p) (l : c'.Le c'') : Over c c'' p := ⟨o.le.trans l, l.B p o.Bp, o.new, o.bt⟩
/-- back: the list is one's own -/
theorem Over.back {c c' : RC} {p : Addr} (o : Over c c' p) : c.Le (c'.av c.B) := ⟨o.le.K, o.le.mg, fun _ h => h, fun _ h => .inl h, o.le.dom, o.le.pre, o.le.keep, o.le.tup, o.le.frz⟩
theorem Over.ne {c c' : RC} {p : Addr} (o : Over c c' p) {a : Addr} {u : HO} (h : c.H a = some u) : a ≠ p := fun z => by
  rw [z, o.new] at h; cases h
theorem Over.sr {c c' : RC} {p : Addr} {h : EH} (o : Over c c' p) (s : SR c' h) : SR (c'.av c.B) h :=
  ⟨s.len, s.nd, fun n a k e1 e2 => (by
    have r := s.cells n a k e1 e2
    cases k with
    | lst ds => obtain ⟨xs, h1, h2⟩ := r; exact ⟨xs, h1, h2.fewer o.le.B⟩
    | dic t kvs => obtain ⟨ob, zs, h1, h3, h2⟩ := r; exact ⟨ob, zs, h1, h3, h2.fewer o.le.B⟩
    | obj C fs => obtain ⟨Ca, dx, vs, h0, h1, h2⟩ := r; exact ⟨Ca, dx, vs, h0, h1, h2.fewer o.le.B⟩), fun a ha hb => s.nb a ha (o.le.B a hb), fun a hb => s.bt a (o.le.B a hb)⟩
mutual
theorem Rep.more {c : RC} {p : Addr} {xs : List V} (hp : c.H p = none) : ∀ {d : D} {v : V}, Rep c d v → Rep { c with B := fun a => c.B a ∨ a = p, H := upd c.H p (.lst xs) } d v
  | _, _, .non => .non
  | _, _, .bl b => .bl b
  | _, _, .int i => .int i
  | _, _, .str cs => .str cs
  | _, _, .tup (a := a) (xs := ys) h r => .tup (by
      rcases h with (h | ⟨u, h⟩) | h
      · exact .inl (.inl ((upd_ne (show a ≠ p from fun z => by rw [z, hp] at h; cases h)).trans h))
      · exact .inl (.inr ⟨u, (upd_ne (show a ≠ p from fun z => by rw [z, hp] at h; cases h)).trans h⟩)
      · exact .inr h) (Reps.more hp r)
  | _, _, .lst (a := a) h f r => by
      have ne : a ≠ p := fun z => by rw [z, hp] at h; cases h
      exact .lst ((upd_ne ne).trans h) ⟨fun z => z.elim f.1 ne, f.2⟩ (Reps.more hp r)
  | _, _, .scr (a := a) h r => .scr (by
      rcases h with ⟨u, h⟩ | h
      · exact .inl ⟨u, (upd_ne (show a ≠ p from fun z => by rw [z, hp] at h; cases h)).trans h⟩
      · exact .inr h) (Reps.more hp r)
  | _, _, .obj (a := a) m h f r => by
      have ne : a ≠ p := fun z => by rw [z, hp] at h; cases h
      exact .obj m ((upd_ne ne).trans h) ⟨fun z => z.elim f.1 ne, f.2⟩ (RepF.more hp r)
  | _, _, .dic (a := a) h i f r => by
      have ne : a ≠ p := fun z => by rw [z, hp] at h; cases h
      exact .dic ((upd_ne ne).trans h) i ⟨fun z => z.elim f.1 ne, f.2⟩ (RepP.more hp r)
  | _, _, .ref h => .ref h
theorem Reps.more {c : RC} {p : Addr} {xs : List V} (hp : c.H p = none) : ∀ {ds : List D} {vs : List V}, Reps c ds vs → Reps { c with B := fun a => c.B a ∨ a = p, H := upd c.H p (.lst xs) } ds vs
  | _, _, .nil => .nil
  | _, _, .cons h t => .cons (Rep.more hp h) (Reps.more hp t)
theorem RepP.more {c : RC} {p : Addr} {xs : List V} (hp : c.H p = none) : ∀ {ds : List (List Key × D)} {vs : List (List Key × V)}, RepP c ds vs → RepP { c with B := fun a => c.B a ∨ a = p, H := upd c.H p (.lst xs) } ds vs
  | _, _, .nil => .nil
  | _, _, .cons h t => .cons (Rep.more hp h) (RepP.more hp t)
theorem RepF.more {c : RC} {p : Addr} {xs : List V} (hp : c.H p = none) : ∀ {ds : List (Str × D)} {vs : List (Str × V)}, RepF c ds vs → RepF { c with B := fun a => c.B a ∨ a = p, H := upd c.H p (.lst xs) } ds vs
  | _, _, .nil => .nil
  | _, _, .cons h t => .cons (Rep.more hp h) (RepF.more hp t)
end
/-- the start -/
theorem Over.start {c : RC} {h : EH} {p : Addr} {xs : List V} (s : SR c h) (hp : c.H p = none) : Over c { c with B := fun a => c.B a ∨ a = p, H := upd c.H p (.lst xs) } p ∧ SR { c with B := fun a => c.B a ∨ a = p, H := upd c.H p (.lst xs) } h := by
  have np : p ∉ c.ρ := fun z => by
    obtain ⟨o, e⟩ := s.ex z
    rw [hp] at e; cases e
  have ne : ∀ a o, c.H a = some o → a ≠ p := fun a o e z => by rw [z, hp] at e; cases e
  refine ⟨⟨⟨rfl, rfl, fun _ h => .inl h, fun a h => h.imp id fun z => by rw [z]; exact hp, fun a u e => ⟨u, (upd_ne (ne a u e)).trans e⟩, fun _ _ h => h, fun a u e _ n => ⟨(upd_ne (ne a u e)).trans e, n⟩, fun a ys e => ?_, fun a o u e => (upd_ne (ne a _ e)).trans e⟩, .inr rfl, hp, s.bt⟩, ⟨s.len, s.nd, fun n a k e1 e2 => ?_, fun a ha z => z.elim (s.nb a ha) fun z => np (z ▸ ha), fun a hb => ?_⟩⟩
  · rcases e with e | ⟨u, e⟩
    · exact .inl ((upd_ne (ne a _ e)).trans e)
    · exact .inr ⟨u, (upd_ne (ne a _ e)).trans e⟩
  · have r := s.cells n a k e1 e2
    cases k with
    | lst ds => obtain ⟨ys, h1, h2⟩ := r; exact ⟨ys, (upd_ne (ne a _ h1)).trans h1, h2.more hp⟩
    | dic t kvs => obtain ⟨ob, zs, h1, h3, h2⟩ := r; exact ⟨ob, zs, (upd_ne (ne a _ h1)).trans h1, h3, h2.more hp⟩
    | obj C fs => obtain ⟨Ca, dx, vs, h0, h1, h2⟩ := r; exact ⟨Ca, dx, vs, h0, (upd_ne (ne a _ h1)).trans h1, h2.more hp⟩
  · rcases hb with hb | rfl
    · obtain ⟨u, e⟩ := s.bt a hb
      exact ⟨u, (upd_ne (ne a u e)).trans e⟩
    · exact ⟨_, upd_same⟩
/-! the list at p, which is not to be touched, is written by the comprehension itself -/
mutual
theorem Rep.putB {c : RC} {p : Addr} {xs ys : List V} (hB : c.B p) (hp : c.H p = some (.lst xs)) : ∀ {d : D} {v : V}, Rep c d v → Rep (c.put p (.lst ys)) d v
  | _, _, .non => .non
  | _, _, .bl b => .bl b
  | _, _, .int i => .int i
  | _, _, .str cs => .str cs
  | _, _, .tup (a := a) h r => .tup (by
      rcases h with (h | ⟨u, h⟩) | h
      · exact .inl (.inl ((upd_ne (show a ≠ p from fun z => by rw [z, hp] at h; cases h)).trans h))
      · exact .inl (.inr ⟨u, (upd_ne (show a ≠ p from fun z => by rw [z, hp] at h; cases h)).trans h⟩)
      · exact .inr h) (Reps.putB hB hp r)
  | _, _, .lst (a := a) h f r => by
      have ne : a ≠ p := fun z => f.1 (z ▸ hB)
      exact .lst ((upd_ne ne).trans h) f (Reps.putB hB hp r)
  | _, _, .scr (a := a) h r => .scr (by
      rcases h with ⟨u, h⟩ | h
      · exact .inl ⟨u, (upd_ne (show a ≠ p from fun z => by rw [z, hp] at h; cases h)).trans h⟩
      · exact .inr h) (Reps.putB hB hp r)
  | _, _, .obj (a := a) m h f r => by
      have ne : a ≠ p := fun z => f.1 (z ▸ hB)
      exact .obj m ((upd_ne ne).trans h) f (RepF.putB hB hp r)
  | _, _, .dic (a := a) h i f r => by
      have ne : a ≠ p := fun z => f.1 (z ▸ hB)
      exact .dic ((upd_ne ne).trans h) i f (RepP.putB hB hp r)
  | _, _, .ref h => .ref h
theorem Reps.putB {c : RC} {p : Addr} {xs ys : List V} (hB : c.B p) (hp : c.H p = some (.lst xs)) : ∀ {ds : List D} {vs : List V}, Reps c ds vs → Reps (c.put p (.lst ys)) ds vs
  | _, _, .nil => .nil
  | _, _, .cons h t => .cons (Rep.putB hB hp h) (Reps.putB hB hp t)
theorem RepP.putB {c : RC} {p : Addr} {xs ys : List V} (hB : c.B p) (hp : c.H p = some (.lst xs)) : ∀ {ds : List (List Key × D)} {vs : List (List Key × V)}, RepP c ds vs → RepP (c.put p (.lst ys)) ds vs
  | _, _, .nil => .nil
  | _, _, .cons h t => .cons (Rep.putB hB hp h) (RepP.putB hB hp t)
theorem RepF.putB {c : RC} {p : Addr} {xs ys : List V} (hB : c.B p) (hp : c.H p = some (.lst xs)) : ∀ {ds : List (Str × D)} {vs : List (Str × V)}, RepF c ds vs → RepF (c.put p (.lst ys)) ds vs
  | _, _, .nil => .nil
  | _, _, .cons h t => .cons (Rep.putB hB hp h) (RepF.putB hB hp t)
end
theorem Over.putB {c c' : RC} {h : EH} {p : Addr} {xs ys : List V} (o : Over c c' p) (s : SR c' h) (hp : c'.H p = some (.lst xs)) : Over c (c'.put p (.lst ys)) p ∧ SR (c'.put p (.lst ys)) h := by
  have hB : c'.B p := o.Bp
  refine ⟨⟨⟨o.le.K, o.le.mg, o.le.B, o.le.Bn, fun a u e => ?_, o.le.pre, fun a u e t n => ?_, fun a zs e => ?_, fun a u w e => (upd_ne (show a ≠ p from o.ne e)).trans (o.le.frz a u w e)⟩, o.Bp, o.new, o.bt⟩, ⟨s.len, s.nd, fun n a k e1 e2 => ?_, s.nb, fun a hb => ?_⟩⟩
  · obtain ⟨u', h1⟩ := o.le.dom a u e
    exact ⟨u', (upd_ne (o.ne e)).trans h1⟩
  · obtain ⟨h1, n1⟩ := o.le.keep a u e t n
    exact ⟨(upd_ne (o.ne e)).trans h1, n1⟩
  · rcases o.le.tup a zs e with e' | ⟨u, e'⟩
    · exact .inl ((upd_ne (show a ≠ p from fun z => by rw [z, hp] at e'; cases e')).trans e')
    · exact .inr ⟨u, (upd_ne (show a ≠ p from fun z => by rw [z, hp] at e'; cases e')).trans e'⟩
  · have r := s.cells n a k e1 e2
    have ne : a ≠ p := fun z => s.nb a (List.mem_of_getElem? e1) (z ▸ hB)
    cases k with
    | lst ds => obtain ⟨zs, h1, h2⟩ := r; exact ⟨zs, (upd_ne ne).trans h1, h2.putB hB hp⟩
    | dic t kvs => obtain ⟨ob, zs, h1, h3, h2⟩ := r; exact ⟨ob, zs, (upd_ne ne).trans h1, h3, h2.putB hB hp⟩
    | obj C fs => obtain ⟨Ca, dx, vs, h0, h1, h2⟩ := r; exact ⟨Ca, dx, vs, h0, (upd_ne ne).trans h1, h2.putB hB hp⟩
  · by_cases e : a = p
    · exact ⟨_, by rw [e]; exact upd_same⟩
    · obtain ⟨u, q⟩ := s.bt a hb
      exact ⟨u, (upd_ne e).trans q⟩
theorem EnvR.putB {c : RC} {p : Addr} {xs ys : List V} (hB : c.B p) (hp : c.H p = some (.lst xs)) {ε : Ev} {σ : L2.St} (r : EnvR c ε σ) : EnvR (c.put p (.lst ys)) ε σ := ⟨r.len, fun i d e => let ⟨v, h1, h2⟩ := r.at_ i d e; ⟨v, h1, h2.putB hB hp⟩⟩
theorem EnvR.more {c : RC} {p : Addr} {xs : List V} (hp : c.H p = none) {ε : Ev} {σ : L2.St} (r : EnvR c ε σ) : EnvR { c with B := fun a => c.B a ∨ a = p, H := upd c.H p (.lst xs) } ε σ := ⟨r.len, fun i d e => let ⟨v, h1, h2⟩ := r.at_ i d e; ⟨v, h1, h2.more hp⟩⟩

theorem lc_of {K : PySem.W.Frag} {mg : Str → Option Value} {W : WX} {mi : M (List D)} {g : MG} {S vs : List Nat} {t : M Bool} {el : M D} {σ : L2.St} {H : Hp} {Q : VK} (hS : ∀ i ∈ S, i ∈ vs) (h : tE K mg W (mLc vs mi g t el) σ H Q) :
    tLc (tI K mg W mi) (tG K mg S g) (tT K mg W0 t) (tE K mg W0 el) vs σ H Q := by
  obtain ⟨c, ε, h, r, h', hK, hm, rfl, sr, er, e, px, go⟩ := h
  unfold tLc
  refine tX.bind hK hm sr er e px fun ds h1 c1 J e1 l1 s1 r1 => ?_
  intro p hp
  obtain ⟨G, Y, hw, hG, hY⟩ := r1
  have hK1 := l1.K.trans hK
  have hm1 := l1.mg.trans hm
  cases q : lcL g t el ds (wipeE ε vs) h1 with
  | none => rw [q] at e1; cases e1
  | some z =>
    obtain ⟨all, hE⟩ := z
    rw [q] at e1
    have e1' : (if all.length ≤ sizeLine then some (PD.R.ok (D.lst all), hE) else none) = some (r, h') := e1
    by_cases hz : all.length ≤ sizeLine
    · rw [if_pos hz] at e1'
      cases e1'
      obtain ⟨o2, s2⟩ := Over.start (xs := []) s1 hp
      refine lc_it hw (fun i H => ∃ c2 h2 acc xs rest, Over c1 c2 p ∧ c2.H = H ∧ SR c2 h2 ∧ H p = some (.lst xs) ∧ Reps c2 acc xs ∧ EnvR c2 (wipeE ε vs) (wipe σ vs) ∧ lcL g t el (ds.drop i) (wipeE ε vs) h2 = some (rest, h') ∧ acc ++ rest = all) ?_ ?_ ?_ ?_
      · exact ⟨_, h1, [], [], all, o2, rfl, s2, upd_same, .nil, EnvR.more hp (wipe_envR vs (er.le l1)), q, rfl⟩
      · rintro i H hi ⟨c2, h2, acc, xs, rest, o, rfl, _⟩
        exact hG c2 o.le
      · rintro i x H H' hi ⟨c2, h2, acc, xs, rest, o, rfl, s, hxs, racc, en, e2, ea⟩ y
        obtain ⟨c3, rfl, l3, s3, d, hd, rd⟩ := hY i x c2 h2 H' o.le s y
        have hdr : ds.drop i = d :: ds.drop (i + 1) := by
          rw [List.drop_eq_getElem_cons hi]
          have : ds[i] = d := by
            have := List.getElem?_eq_getElem hi
            rw [this] at hd
            exact Option.some.inj hd
          rw [this]
        rw [hdr] at e2
        unfold lcL at e2
        have o3 := o.step l3
        have p3 := (l3.keep p _ hxs (fun _ z => by cases z) fun z => s.nb p z o.Bp).1
        have hK3 : c3.K = K := o3.le.K.trans hK1
        have hm3 : c3.mg = mg := o3.le.mg.trans hm1
        cases q2 : g d (wipeE ε vs) h2 with
        | none => rw [q2] at e2; cases e2
        | some z =>
          obtain ⟨ε3, h3⟩ := z
          rw [q2] at e2
          dsimp only at e2
          refine ⟨c3, d, wipeE ε vs, h2, ε3, h3, hK3, hm3, rfl, s3, rd, en.le l3, q2, fun c4 σ4 l4 s4 en4 sv => ⟨wipe_save sv hS, ?_⟩⟩
          have o4 := o3.step l4
          have p4 := (l4.keep p _ p3 (fun _ z => by cases z) fun z => s3.nb p z o3.Bp).1
          have hK4 : c4.K = K := o4.le.K.trans hK1
          have hm4 : c4.mg = mg := o4.le.mg.trans hm1
          cases q3 : t ε3 h3 with
          | none => rw [q3] at e2; cases e2
          | some z =>
            obtain ⟨rb, h5⟩ := z
            rw [q3] at e2
            cases rb with
            | ex x5 => cases e2
            | ok b =>
              refine ⟨c4, ε3, h3, .ok b, h5, hK4, hm4, rfl, s4, en4, q3, Px.ok, fun b' eb c5 b'' l5 s5 rb => ?_⟩
              cases eb
              subst rb
              have o5 := o4.step l5
              have p5 := (l5.keep p _ p4 (fun _ z => by cases z) fun z => s4.nb p z o4.Bp).1
              have en5 : EnvR c5 (wipeE ε vs) (wipe σ vs) := ((en.le l3).le l4).le l5
              have racc5 := ((racc.le l3).le l4).le l5
              cases b with
              | false =>
                rw [if_neg Bool.false_ne_true]
                exact ⟨c5, h5, acc, xs, rest, o5, rfl, s5, p5, racc5, en5, e2, ea⟩
              | true =>
                rw [if_pos rfl]
                dsimp only at e2
                cases q4 : el ε3 h5 with
                | none => rw [q4] at e2; cases e2
                | some z =>
                  obtain ⟨ry, h6⟩ := z
                  rw [q4] at e2
                  cases ry with
                  | ex x6 => cases e2
                  | ok y0 =>
                    dsimp only at e2
                    refine ⟨c5, ε3, h5, .ok y0, h6, o5.le.K.trans hK1, o5.le.mg.trans hm1, rfl, s5, en4.le l5, q4, Px.ok, fun y' ey c6 yv l6 s6 ry => ?_⟩
                    cases ey
                    have o6 := o5.step l6
                    have p6 := (l6.keep p _ p5 (fun _ z => by cases z) fun z => s5.nb p z o5.Bp).1
                    cases q5 : lcL g t el (ds.drop (i + 1)) (wipeE ε vs) h6 with
                    | none => rw [q5] at e2; cases e2
                    | some z =>
                      obtain ⟨ys, h7⟩ := z
                      rw [q5] at e2
                      cases e2
                      have hlen : xs.length < sizeLine := by
                        rw [← racc.length]
                        have := congrArg List.length ea
                        simp only [List.length_append, List.length_cons] at this
                        omega
                      refine ⟨xs, p6, hlen, ?_⟩
                      obtain ⟨o7, s7⟩ := o6.putB (ys := xs ++ [yv]) s6 p6
                      exact ⟨_, h6, acc ++ [y0], xs ++ [yv], ys, o7, rfl, s7, upd_same, ((racc5.le l6).append (.cons ry .nil)).putB o6.Bp p6, (en5.le l6).putB o6.Bp p6, q5, by rw [List.append_assoc]; exact ea⟩
      · rintro H ⟨c2, h2, acc, xs, rest, o, rfl, s, hxs, racc, en, e2, ea⟩
        rw [List.drop_length] at e2
        cases e2
        rw [List.append_nil] at ea
        subst ea
        refine go _ rfl (c2.av c1.B) _ (l1.trans o.back) (o.sr s) (.lst hxs ⟨fun z => ?_, fun z => s.nb p z o.Bp⟩ (racc.fewer o.le.B))
        obtain ⟨u, eu⟩ := o.bt p z
        rw [o.new] at eu; cases eu
    · rw [if_neg hz] at e1'; cases e1'

section
variable {X : Cx} {W : WX}
theorem re_lc {elt tg iter : Expr} {ifs : List Expr} {scope : Scope} {own : List (Str × Nat)} {pos : Pos} {mi : M (List D)} {g : MG} {S : List Nat} {t : M Bool} {e : M D} (hc : X.calm = true) (hN : X.N.Nodup) (hi : RI X W tg iter mi) (ok : BlkOk X.N X.env.scope scope own) (hS : ∀ i ∈ S, i ∈ own.map (·.2))
    (hg : ∀ (s : Shared) (H : Hp) (C : Addr) (cl : List (Str × Addr)) (fp : List Addr), RG (X.blk s H scope (compEnvC scope cl C X.env) fp) tg S g) (ht : ∀ (s : Shared) (H : Hp) (C : Addr) (cl : List (Str × Addr)) (fp : List Addr), RTs (X.blk s H scope (compEnvC scope cl C X.env) fp) W0 ifs t)
    (he : ∀ (s : Shared) (H : Hp) (C : Addr) (cl : List (Str × Addr)) (fp : List Addr), RE (X.blk s H scope (compEnvC scope cl C X.env) fp) W0 elt e) (hs : ∀ x, foldedSetIterable iter X.env x = pure x := by intro _; rfl) :
    RE X W (.ListComp elt [⟨tg, iter, ifs, 0⟩] scope pos) (mLc (own.map (·.2)) mi g t e) := by
  refine pe_imp (pe_lc (g := tG X.K X.mg S g) (tt := tT X.K X.mg W0 t) (te := tE X.K X.mg W0 e) hc hN hi ok hg ht he hs) fun σ H Q h => ?_
  exact lc_of hS h
end
end PD

namespace PD
open PySem PySem.Spec PyProof.Rows L2

/-! ### values without cells -/
def noRef : D → Bool
  | .ref _ => false
  | .tup ds => go ds
  | .lst ds => go ds
  | .scr ds => go ds
  | .obj _ fs => gf fs
  | .dic _ kvs => gp kvs
  | _ => true
where
  go : List D → Bool
  | [] => true
  | d :: ds => noRef d && go ds
  gf : List (Str × D) → Bool
  | [] => true
  | (_, d) :: ds => noRef d && gf ds
  gp : List (List Key × D) → Bool
  | [] => true
  | (_, d) :: ds => noRef d && gp ds
/-- no list, no object: nothing that may be written -/
def flatT : D → Bool
  | .ref _ => false
  | .tup ds => go ds
  | .lst _ => false
  | .obj _ _ => false
  | .dic _ _ => false
  | _ => true
where
  go : List D → Bool
  | [] => true
  | d :: ds => flatT d && go ds
/-- the cells forgotten, other things not to be touched -/
abbrev RC.bare (c : RC) (B : Addr → Prop) : RC := { c with ρ := [], B := B }
mutual
theorem Rep.bare {c : RC} {B : Addr → Prop} (hB : ∀ a, B a → c.B a ∨ a ∈ c.ρ) : ∀ {d : D} {v : V}, Rep c d v → noRef d = true → Rep (c.bare B) d v
  | _, _, .non, _ => .non
  | _, _, .bl b, _ => .bl b
  | _, _, .int i, _ => .int i
  | _, _, .str cs, _ => .str cs
  | .tup ds, _, .tup h r, e => .tup h (Reps.bare hB r (by rw [noRef] at e; exact e))
  | .lst ds, _, .lst h f r, e => .lst h ⟨fun z => (hB _ z).elim f.1 f.2, List.not_mem_nil⟩ (Reps.bare hB r (by rw [noRef] at e; exact e))
  | .scr ds, _, .scr h r, e => .scr h (Reps.bare hB r (by rw [noRef] at e; exact e))
  | .obj C fs, _, .obj m h f r, e => .obj m h ⟨fun z => (hB _ z).elim f.1 f.2, List.not_mem_nil⟩ (RepF.bare hB r (by rw [noRef] at e; exact e))
  | .dic t kvs, _, .dic h i f r, e => .dic h i ⟨fun z => (hB _ z).elim f.1 f.2, List.not_mem_nil⟩ (RepP.bare hB r (by rw [noRef] at e; exact e))
  | _, _, .ref h, e => by cases e
theorem Reps.bare {c : RC} {B : Addr → Prop} (hB : ∀ a, B a → c.B a ∨ a ∈ c.ρ) : ∀ {ds : List D} {vs : List V}, Reps c ds vs → noRef.go ds = true → Reps (c.bare B) ds vs
  | _, _, .nil, _ => .nil
  | _, _, .cons h t, e => by
    rw [noRef.go, Bool.and_eq_true] at e
    exact .cons (Rep.bare hB h e.1) (Reps.bare hB t e.2)
theorem RepP.bare {c : RC} {B : Addr → Prop} (hB : ∀ a, B a → c.B a ∨ a ∈ c.ρ) : ∀ {ds : List (List Key × D)} {vs : List (List Key × V)}, RepP c ds vs → noRef.gp ds = true → RepP (c.bare B) ds vs
  | _, _, .nil, _ => .nil
  | _, _, .cons h t, e => by
    rw [noRef.gp, Bool.and_eq_true] at e
    exact .cons (Rep.bare hB h e.1) (RepP.bare hB t e.2)
theorem RepF.bare {c : RC} {B : Addr → Prop} (hB : ∀ a, B a → c.B a ∨ a ∈ c.ρ) : ∀ {ds : List (Str × D)} {vs : List (Str × V)}, RepF c ds vs → noRef.gf ds = true → RepF (c.bare B) ds vs
  | _, _, .nil, _ => .nil
  | _, _, .cons h t, e => by
    rw [noRef.gf, Bool.and_eq_true] at e
    exact .cons (Rep.bare hB h e.1) (RepF.bare hB t e.2)
end
mutual
theorem Rep.unbare {c : RC} {ρ : List Addr} {B : Addr → Prop} (h1 : ∀ a ∈ ρ, c.B a) (h2 : ∀ a, B a → c.B a) (h0 : c.ρ = []) : ∀ {d : D} {v : V}, Rep c d v → Rep { c with ρ := ρ, B := B } d v
  | _, _, .non => .non
  | _, _, .bl b => .bl b
  | _, _, .int i => .int i
  | _, _, .str cs => .str cs
  | _, _, .tup h r => .tup h (Reps.unbare h1 h2 h0 r)
  | _, _, .lst h f r => .lst h ⟨fun z => f.1 (h2 _ z), fun z => f.1 (h1 _ z)⟩ (Reps.unbare h1 h2 h0 r)
  | _, _, .scr h r => .scr h (Reps.unbare h1 h2 h0 r)
  | _, _, .obj m h f r => .obj m h ⟨fun z => f.1 (h2 _ z), fun z => f.1 (h1 _ z)⟩ (RepF.unbare h1 h2 h0 r)
  | _, _, .dic h i f r => .dic h i ⟨fun z => f.1 (h2 _ z), fun z => f.1 (h1 _ z)⟩ (RepP.unbare h1 h2 h0 r)
  | _, _, .ref h => by rw [h0] at h; simp at h
theorem Reps.unbare {c : RC} {ρ : List Addr} {B : Addr → Prop} (h1 : ∀ a ∈ ρ, c.B a) (h2 : ∀ a, B a → c.B a) (h0 : c.ρ = []) : ∀ {ds : List D} {vs : List V}, Reps c ds vs → Reps { c with ρ := ρ, B := B } ds vs
  | _, _, .nil => .nil
  | _, _, .cons h t => .cons (Rep.unbare h1 h2 h0 h) (Reps.unbare h1 h2 h0 t)
theorem RepP.unbare {c : RC} {ρ : List Addr} {B : Addr → Prop} (h1 : ∀ a ∈ ρ, c.B a) (h2 : ∀ a, B a → c.B a) (h0 : c.ρ = []) : ∀ {ds : List (List Key × D)} {vs : List (List Key × V)}, RepP c ds vs → RepP { c with ρ := ρ, B := B } ds vs
  | _, _, .nil => .nil
  | _, _, .cons h t => .cons (Rep.unbare h1 h2 h0 h) (RepP.unbare h1 h2 h0 t)
theorem RepF.unbare {c : RC} {ρ : List Addr} {B : Addr → Prop} (h1 : ∀ a ∈ ρ, c.B a) (h2 : ∀ a, B a → c.B a) (h0 : c.ρ = []) : ∀ {ds : List (Str × D)} {vs : List (Str × V)}, RepF c ds vs → RepF { c with ρ := ρ, B := B } ds vs
  | _, _, .nil => .nil
  | _, _, .cons h t => .cons (Rep.unbare h1 h2 h0 h) (RepF.unbare h1 h2 h0 t)
end
/-- freeze -/
def frz1 (h : EH) (d : D) : Option D := match d with
  | .ref n => (match h[n]? with
    | some (.lst ds) => if noRef.go ds = true then some (.lst ds) else none
    | some (.obj C fs) => if noRef.gf fs = true then some (.obj C fs) else none
    | some (.dic t kvs) => if noRef.gp kvs = true then some (.dic t kvs) else none
    | _ => none)
  | d => if noRef d = true then some d else none
def frzL (h : EH) : List D → Option (List D)
  | [] => some []
  | d :: ds => match frz1 h d, frzL h ds with
    | some x, some xs => some (x :: xs)
    | _, _ => none
def frz (h : EH) (d : D) : Option D := match d with
  | .tup ds => (frzL h ds).map .tup
  | .lst ds => (frzL h ds).map .lst
  | d => frz1 h d
theorem frz1_ok {c : RC} {h : EH} {B : Addr → Prop} {d e : D} {v : V} (s : SR c h) (hB : ∀ a, B a → c.B a) (r : Rep c d v) (q : frz1 h d = some e) : Rep (c.bare B) e v := by
  have hB' : ∀ a, B a → c.B a ∨ a ∈ c.ρ := fun a z => .inl (hB a z)
  have fin : (if noRef d = true then some d else none) = some e → Rep (c.bare B) e v := fun q => by
    by_cases hc : noRef d = true
    · rw [if_pos hc] at q; cases q; exact r.bare hB' hc
    · rw [if_neg hc] at q; cases q
  cases r with
  | @ref n a hn =>
    unfold frz1 at q
    dsimp only at q
    cases q2 : h[n]? with
    | none => rw [q2] at q; cases q
    | some k =>
      rw [q2] at q
      have cr := s.cells n a k hn q2
      have nb : ¬ B a := fun z => s.nb a (List.mem_of_getElem? hn) (hB a z)
      cases k with
      | lst ds =>
        dsimp only at q
        by_cases hc : noRef.go ds = true
        · rw [if_pos hc] at q
          cases q
          obtain ⟨xs, e1, e2⟩ := cr
          exact .lst e1 ⟨nb, List.not_mem_nil⟩ (e2.bare hB' hc)
        · rw [if_neg hc] at q; cases q
      | dic t kvs =>
        dsimp only at q
        by_cases hc : noRef.gp kvs = true
        · rw [if_pos hc] at q
          cases q
          obtain ⟨o, zs, e1, e3, e2⟩ := cr
          exact .dic e1 e3 ⟨nb, List.not_mem_nil⟩ (e2.bare hB' hc)
        · rw [if_neg hc] at q; cases q
      | obj C fs =>
        dsimp only at q
        by_cases hc : noRef.gf fs = true
        · rw [if_pos hc] at q
          cases q
          obtain ⟨Ca, dx, vs, e0, e1, e2⟩ := cr
          exact .obj e0 e1 ⟨nb, List.not_mem_nil⟩ (e2.bare hB' hc)
        · rw [if_neg hc] at q; cases q
  | _ => exact fin q
theorem frzL_ok {c : RC} {h : EH} {B : Addr → Prop} (s : SR c h) (hB : ∀ a, B a → c.B a) : ∀ {ds es : List D} {vs : List V}, Reps c ds vs → frzL h ds = some es → Reps (c.bare B) es vs
  | _, _, _, .nil, q => by cases q; exact .nil
  | d :: ds, es, _, .cons r t, q => by
    unfold frzL at q
    cases q1 : frz1 h d with
    | none => rw [q1] at q; cases q
    | some x =>
      cases q2 : frzL h ds with
      | none => rw [q1, q2] at q; cases q
      | some xs => rw [q1, q2] at q; cases q; exact .cons (frz1_ok s hB r q1) (frzL_ok s hB t q2)
theorem frz_ok {c : RC} {h : EH} {B : Addr → Prop} {d e : D} {v : V} (s : SR c h) (hB : ∀ a, B a → c.B a) (r : Rep c d v) (q : frz h d = some e) : Rep (c.bare B) e v := by
  cases r with
  | @tup a ds xs k1 k2 =>
    have q' : (frzL h ds).map D.tup = some e := q
    cases q1 : frzL h ds with
    | none => rw [q1] at q'; cases q'
    | some es => rw [q1] at q'; cases q'; exact .tup k1 (frzL_ok s hB k2 q1)
  | @lst a ds xs k1 k2 k3 =>
    have q' : (frzL h ds).map D.lst = some e := q
    cases q1 : frzL h ds with
    | none => rw [q1] at q'; cases q'
    | some es => rw [q1] at q'; cases q'; exact .lst k1 ⟨fun z => k2.1 (hB _ z), List.not_mem_nil⟩ (frzL_ok s hB k3 q1)
  | non => exact frz1_ok s hB .non q
  | bl b => exact frz1_ok s hB (.bl b) q
  | int i => exact frz1_ok s hB (.int i) q
  | str cs => exact frz1_ok s hB (.str cs) q
  | obj m k1 k2 k3 => exact frz1_ok s hB (.obj m k1 k2 k3) q
  | dic k1 k2 k3 k4 => exact frz1_ok s hB (.dic k1 k2 k3 k4) q
  | ref hn => exact frz1_ok s hB (.ref hn) q
  | scr k1 k2 => exact frz1_ok s hB (.scr k1 k2) q

/-! ### pure defs -/
abbrev PF := List D → Option (R D)
/-- a body run over no cells -/
def startE (n : Nat) (ds : List D) : Ev := ds.map some ++ List.replicate (n - ds.length) none
def endP (x : Option (RS × EH)) : Option (R D) := match x with
  | some (.rt d, h) => (frz h d).map .ok
  | some (.nx _, _) => some (.ok .non)
  | some (.ex e _, _) => if noRef.gf e.fs = true then some (.ex e) else none
  | _ => none
def runP (n : Nat) (m : MS) : PF := fun ds => endP (m (startE n ds) [])
def SpP (K : PySem.W.Frag) (mg : Str → Option Value) (n : Nat) (F : PF) : Sp := fun vs H Q E => ∃ (c : RC) (ds : List D) (r : R D), c.K = K ∧ c.mg = mg ∧ c.H = H ∧ c.ρ = [] ∧ (∀ a, c.B a → ∃ o, H a = some o) ∧ Reps c ds vs ∧ ds.length = n ∧ F ds = some r ∧
  (∀ d, r = .ok d → ∀ c' v, c.Le c' → c'.ρ = [] → Rep c' d v → Q v c'.H) ∧ (∀ e, r = .ex e → ∀ c' cls dx, c.Le c' → c'.ρ = [] → ExR c' e cls dx → E cls dx c'.H)
theorem SR.nil {c : RC} (h : c.ρ = []) (bt : ∀ a, c.B a → ∃ o, c.H a = some o) : SR c [] :=
  ⟨by rw [h]; rfl, by rw [h]; exact List.nodup_nil, fun n a k e => by rw [h] at e; simp at e, fun a e => by rw [h] at e; simp at e, bt⟩
theorem start_envR {c : RC} {ds : List D} {vs : List V} {N : List Str} (r : Reps c ds vs) : EnvR c (startE N.length ds) (L2.start N vs) := by
  refine ⟨by simp [startE, L2.start, r.length], fun i d e => ?_⟩
  unfold startE at e
  unfold L2.start
  by_cases hi : i < ds.length
  · rw [List.getElem?_append_left (by simpa using hi), List.getElem?_map] at e
    rw [List.getElem?_append_left (by rw [List.length_map, ← r.length]; exact hi), List.getElem?_map]
    cases q : ds[i]? with
    | none => rw [q] at e; cases e
    | some d' =>
      rw [q] at e
      cases e
      obtain ⟨v, h1, h2⟩ := r.get q
      exact ⟨v, by rw [h1]; rfl, h2⟩
  · rw [List.getElem?_append_right (by simp; omega)] at e
    exfalso
    rw [List.getElem?_replicate] at e
    split at e <;> cases e
/-- what one has of a pure def -/
structure FnP (P : Program) (w : World) (K : PySem.W.Frag) (mg : Str → Option Value) (base : Heap) (x : Str) (k n : Nat) (F : PF) : Prop where
  ex : ∃ (f : Addr) (fd : FuncData) (ps : List Str), mg x = some (.ref f) ∧ PySem.W.keepIn K (.ref f) = true ∧ Binds K fd ps [] ∧ ps.length = n ∧ FnOk P w K mg base (L2.CX P w) k f fd ps (SpP K mg n F)
section
variable {P : Program} {w : World} {K : PySem.W.Frag} {mg : Str → Option Value} {base : Heap}
theorem body_of {N : List Str} {m : MS} {vs : List V} {H : Hp} {Q : VK} {E : XK} {n : Nat} (h : SpP K mg n (runP N.length m) vs H Q E) : tS K mg (fun cls d _ H' => E cls d H') m { nx := fun _ H' => Q .non H', rt := Q } (L2.start N vs) H := by
  obtain ⟨c, ds, r, hK, hm, rfl, hρ, bt, rv, hn, e, go, gx⟩ := h
  have sr := SR.nil hρ bt
  unfold runP at e
  cases q : m (startE N.length ds) [] with
  | none => rw [q] at e; cases e
  | some z =>
    obtain ⟨rs, h'⟩ := z
    rw [q] at e
    have back : ∀ c', c.Le c' → c.Le (c'.bare c.B) := fun c' l => ⟨l.K, l.mg, fun _ h => h, fun _ h => .inl h, l.dom, fun n a e => by rw [hρ] at e; simp at e, fun a o e t n => ⟨(l.keep a o e t n).1, List.not_mem_nil⟩, l.tup, l.frz⟩
    refine ⟨c, startE N.length ds, [], rs, h', hK, hm, rfl, sr, start_envR rv, q, ?_⟩
    cases rs with
    | nx ε' =>
      cases e
      exact fun c' σ' l s en => go _ rfl (c'.bare c.B) _ (back c' l) rfl .non
    | rt d =>
      have e' : (frz h' d).map R.ok = some r := e
      cases q2 : frz h' d with
      | none => rw [q2] at e'; cases e'
      | some d' =>
        rw [q2] at e'
        cases e'
        exact fun c' v l s rd => go _ rfl (c'.bare c.B) v (back c' l) rfl (frz_ok s l.B rd q2)
    | bk ε' => cases e
    | ct ε' => cases e
    | ex x ε' =>
      have e' : (if noRef.gf x.fs = true then some (R.ex x) else none) = some r := e
      by_cases hc : noRef.gf x.fs = true
      · rw [if_pos hc] at e'
        cases e'
        refine fun c' σ' cls dx l s en xr => gx _ rfl (c'.bare c.B) cls dx (back c' l) rfl ?_
        obtain ⟨Ca, d, vs, h1, h2, h3, h4, h5, h6⟩ := xr
        exact ⟨Ca, d, vs, h1, h2, h3, h4, ⟨fun z => h5.1 (l.B _ z), List.not_mem_nil⟩, h6.bare (fun a z => .inl (l.B a z)) hc⟩
      · rw [if_neg hc] at e'; cases e'
theorem fnP {x qual : Str} {params : Arguments} {body : List Stmt} {scope : Scope} {f : Addr} {fd : FuncData} {N ps : List Str} {k : Nat} {m : MS} {dvs : List V} {kws : List (Str × V)} (F : FunD K x qual params body scope dvs kws f fd) (S : FnScope N ps scope)
    (hb : ∀ (cdv : Value) (A : Around) (outer : List Env) (s : Shared) (H : Hp) (E : XK), Room k (A.deeper (envOfC qual scope s.heap.objs.size f cdv)) → RSs (cxOf (L2.CX P w) P w K mg base N qual scope f cdv A outer s H E) (fun cls d _ H' => E cls d H') body m) :
    FnOk P w K mg base (L2.CX P w) (k + 1) f fd ps (SpP K mg ps.length (runP N.length m)) := by
  refine F.ok S (fun vs H Q E h => ?_) (fun cdv A outer s H vs Q E hr h => ⟨_, hb cdv A outer s H E hr, body_of h⟩)
  obtain ⟨c, ds, r, _, _, _, _, _, rv, hn, _⟩ := h
  rw [← rv.length, hn]
end

/-! ### their calls -/
/-- a gives lists of n -/
def ArN (n : Nat) (a : M (List D)) : Prop := ∀ ε h ds h', a ε h = some (.ok ds, h') → ds.length = n
theorem ar_nil : ArN 0 mNil := fun ε h ds h' e => by cases e; rfl
theorem ar_cons {n : Nat} {a : M D} {b : M (List D)} (hb : ArN n b) : ArN (n + 1) (mCons a b) := fun ε h ds h' e => by
  unfold mCons at e
  cases q : a ε h with
  | none => rw [q] at e; cases e
  | some z =>
    obtain ⟨r1, h1⟩ := z
    rw [q] at e
    cases r1 with
    | ex x => cases e
    | ok x =>
      rw [bR_ok] at e
      cases q2 : b ε h1 with
      | none => rw [q2] at e; cases e
      | some z =>
        obtain ⟨r2, h2⟩ := z
        rw [q2] at e
        cases r2 with
        | ex x => cases e
        | ok xs => cases e; exact congrArg Nat.succ (hb _ _ _ _ q2)
def mCallP (F : PF) (a : M (List D)) : M D := fun ε h => bR (a ε h) fun ds h1 => if noRef.go ds = true then (F ds).map fun r => (r, h1) else none
section
variable {X : Cx} {W : WX}
theorem callP_of {K : PySem.W.Frag} {mg : Str → Option Value} {n : Nat} {F : PF} {a : M (List D)} {σ : L2.St} {H : Hp} {Q : VK} (hn : ArN n a) (h : tE K mg W (mCallP F a) σ H Q) :
    tCallSD (SpP K mg n F) [] (fun σ cls d H' => W cls d σ H') (tA K mg W a) σ H Q := by
  obtain ⟨c, ε, h, r, h', hK, hm, rfl, sr, er, e, px, go⟩ := h
  unfold tCallSD
  cases q : a ε h with
  | none => rw [mCallP, q] at e; cases e
  | some z =>
    obtain ⟨ra, h1⟩ := z
    rw [mCallP, q] at e
    cases ra with
    | ex x =>
      cases e
      exact ⟨c, ε, h, .ex x, _, hK, hm, rfl, sr, er, q, fun y ey => px y (by cases ey; rfl), fun a' ea => nomatch ea⟩
    | ok ds =>
      refine ⟨c, ε, h, .ok ds, h1, hK, hm, rfl, sr, er, q, Px.ok, fun ds' eds c1 vs l1 s1 r1 => ?_⟩
      cases eds
      have e' : (if noRef.go ds = true then (F ds).map fun r => (r, h1) else none) = some (r, h') := e
      by_cases hc : noRef.go ds = true
      · rw [if_pos hc] at e'
        cases q2 : F ds with
        | none => rw [q2] at e'; cases e'
        | some r2 =>
          rw [q2] at e'
          cases e'
          rw [List.append_nil]
          have hK1 := l1.K.trans hK
          have hm1 := l1.mg.trans hm
          -- the callee's view: our cells are not to be touched
          have r1' : Reps (c1.bare fun a => c1.B a ∨ a ∈ c1.ρ) ds vs := r1.bare (fun _ z => z) hc
          have back : ∀ c', (c1.bare fun a => c1.B a ∨ a ∈ c1.ρ).Le c' → c1.Le { c' with ρ := c1.ρ, B := c1.B } ∧ SR { c' with ρ := c1.ρ, B := c1.B } h' := fun c' l => by
            have l2 : c1.Le { c' with ρ := c1.ρ, B := c1.B } := ⟨l.K, l.mg, fun _ h => h, fun _ h => .inl h, l.dom, fun _ _ h => h, fun a o e t n => ⟨(l.keep a o e t List.not_mem_nil).1, n⟩, l.tup, l.frz⟩
            refine ⟨l2, s1.len, s1.nd, fun n a k e1 e2 => ?_, s1.nb, fun a hb => ?_⟩
            · have cr := s1.cells n a k e1 e2
              obtain ⟨o, eo⟩ := cr.ex
              refine cr.le l2 ?_
              have nt : ∀ ps, o ≠ .tbl ps := fun ps z => by
                subst z
                cases k with
                | lst ds => obtain ⟨xs, h1, _⟩ := cr; rw [eo] at h1; cases h1
                | dic t kvs => obtain ⟨o', zs, h1, h3, _⟩ := cr; rw [eo] at h1; cases h1; exact h3.tbl _ rfl
                | obj C fs => obtain ⟨_, _, _, _, h1, _⟩ := cr; rw [eo] at h1; cases h1
              exact (l.keep a o eo nt List.not_mem_nil).1.trans eo.symm
            · obtain ⟨o, eo⟩ := s1.bt a hb
              exact l.dom a o eo
          refine ⟨c1.bare fun a => c1.B a ∨ a ∈ c1.ρ, ds, r, hK1, hm1, rfl, rfl, fun a z => ?_, r1', hn _ _ _ _ q, q2, fun d ed c' v l hρ rd => ?_, fun x ex c' cls dx l hρ xr => ?_⟩
          · rcases z with z | z
            · exact s1.bt a z
            · exact s1.ex z
          · obtain ⟨l2, s2⟩ := back c' l
            refine go d ed { c' with ρ := c1.ρ, B := c1.B } v (l1.trans l2) s2 ?_
            exact Rep.unbare (fun a ha => l.B a (.inr ha)) (fun a ha => l.B a (.inl ha)) hρ rd
          · obtain ⟨l2, s2⟩ := back c' l
            refine px x ex { c' with ρ := c1.ρ, B := c1.B } cls dx (l1.trans l2) s2 ?_
            obtain ⟨Ca, d, us, h1, h2, h3, h4, h5, h6⟩ := xr
            exact ⟨Ca, d, us, h1, h2, h3, h4, ⟨fun z => h5.1 (l.B _ (.inl z)), fun z => h5.1 (l.B _ (.inr z))⟩, RepF.unbare (fun a ha => l.B a (.inr ha)) (fun a ha => l.B a (.inl ha)) hρ h6⟩
      · rw [if_neg hc] at e'; cases e'
theorem re_callP {x : Str} {p pos : Pos} {e : Expr} {es : List Expr} {k j n : Nat} {F : PF} {ma : M (List D)} (G : FnP X.prog X.w X.K X.mg X.base x k n F) (hr : Room j X.A) (tk : Takes X W) (ha : RA X W (e :: es) ma) (hk : k ≤ j := by decide)
    (hn : ArN n ma := by repeat (first | exact ar_nil | refine ar_cons ?_)) (hg : Gl X x := by rfl)
    (hdb : (x == ("__debug__" : Str)) = false := by decide) (he : starEach (e :: es) X.env = (false, eval e X.env) :: starEach es X.env := by rfl) (hpl : (backTo pos (starEach es X.env)).any (·.1) = false := by rfl) :
    RE X W (.Call (.Name x p) (e :: es) [] pos) (mCallP F ma) := by
  obtain ⟨f, fd, ps, hm, hkp, hb, hl, F⟩ := G.ex
  exact pe_imp (pe_callSD F (hr.mono hk) hg hm hkp hb .nil (fun σ => passAt tk σ) ha hdb he hpl) fun σ H Q h => callP_of hn h
theorem re_callP0 {x : Str} {p pos : Pos} {k j : Nat} {F : PF} (G : FnP X.prog X.w X.K X.mg X.base x k 0 F) (hr : Room j X.A) (tk : Takes X W) (hk : k ≤ j := by decide) (hg : Gl X x := by rfl)
    (hdb : (x == ("__debug__" : Str)) = false := by decide) : RE X W (.Call (.Name x p) [] [] pos) (mCallP F mNil) := by
  obtain ⟨f, fd, ps, hm, hkp, hb, hl, Fo⟩ := G.ex
  refine ⟨fun pins s σ H Q I h => ?_⟩
  have h2 := callP_of (n := 0) ar_nil h
  have h3 : SpP X.K X.mg 0 F [] H Q (fun cls d H' => W cls d σ H') := by
    obtain ⟨c, ε, eh, r, h', hK, hm', rfl, sr, er, e, px, go⟩ := h2
    cases e
    have := go [] rfl c [] (.refl c) sr .nil
    simpa using this
  refine wpAny_Call_Name_kw (ld_glob I hg hm ?_ hdb)
  exact PySem.W.callWith_K0 I.kIn hkp (run_fnSD (E := fun σ cls d H' => W cls d σ H') (us := []) (vs := []) Fo (hr.mono hk) hb .nil (passAt tk σ) I .nil h3)
end
end PD

namespace PD
open PySem PySem.Spec PyProof.Rows L2

mutual
theorem Rep.re {c : RC} {ρ : List Addr} {B : Addr → Prop} (hB : ∀ a, B a ∨ a ∈ ρ → c.B a ∨ a ∈ c.ρ) : ∀ {d : D} {v : V}, Rep c d v → noRef d = true → Rep { c with ρ := ρ, B := B } d v
  | _, _, .non, _ => .non
  | _, _, .bl b, _ => .bl b
  | _, _, .int i, _ => .int i
  | _, _, .str cs, _ => .str cs
  | .tup ds, _, .tup h r, e => .tup h (Reps.re hB r (by rw [noRef] at e; exact e))
  | .lst ds, _, .lst h f r, e => .lst h ⟨fun z => (hB _ (.inl z)).elim f.1 f.2, fun z => (hB _ (.inr z)).elim f.1 f.2⟩ (Reps.re hB r (by rw [noRef] at e; exact e))
  | .scr ds, _, .scr h r, e => .scr h (Reps.re hB r (by rw [noRef] at e; exact e))
  | .obj C fs, _, .obj m h f r, e => .obj m h ⟨fun z => (hB _ (.inl z)).elim f.1 f.2, fun z => (hB _ (.inr z)).elim f.1 f.2⟩ (RepF.re hB r (by rw [noRef] at e; exact e))
  | .dic t kvs, _, .dic h i f r, e => .dic h i ⟨fun z => (hB _ (.inl z)).elim f.1 f.2, fun z => (hB _ (.inr z)).elim f.1 f.2⟩ (RepP.re hB r (by rw [noRef] at e; exact e))
  | _, _, .ref h, e => by cases e
theorem Reps.re {c : RC} {ρ : List Addr} {B : Addr → Prop} (hB : ∀ a, B a ∨ a ∈ ρ → c.B a ∨ a ∈ c.ρ) : ∀ {ds : List D} {vs : List V}, Reps c ds vs → noRef.go ds = true → Reps { c with ρ := ρ, B := B } ds vs
  | _, _, .nil, _ => .nil
  | _, _, .cons h t, e => by
    rw [noRef.go, Bool.and_eq_true] at e
    exact .cons (Rep.re hB h e.1) (Reps.re hB t e.2)
theorem RepP.re {c : RC} {ρ : List Addr} {B : Addr → Prop} (hB : ∀ a, B a ∨ a ∈ ρ → c.B a ∨ a ∈ c.ρ) : ∀ {ds : List (List Key × D)} {vs : List (List Key × V)}, RepP c ds vs → noRef.gp ds = true → RepP { c with ρ := ρ, B := B } ds vs
  | _, _, .nil, _ => .nil
  | _, _, .cons h t, e => by
    rw [noRef.gp, Bool.and_eq_true] at e
    exact .cons (Rep.re hB h e.1) (RepP.re hB t e.2)
theorem RepF.re {c : RC} {ρ : List Addr} {B : Addr → Prop} (hB : ∀ a, B a ∨ a ∈ ρ → c.B a ∨ a ∈ c.ρ) : ∀ {ds : List (Str × D)} {vs : List (Str × V)}, RepF c ds vs → noRef.gf ds = true → RepF { c with ρ := ρ, B := B } ds vs
  | _, _, .nil, _ => .nil
  | _, _, .cons h t, e => by
    rw [noRef.gf, Bool.and_eq_true] at e
    exact .cons (Rep.re hB h e.1) (RepF.re hB t e.2)
end
def pureC : Cell → Bool
  | .lst ds => noRef.go ds
  | .dic _ kvs => noRef.gp kvs
  | .obj _ fs => noRef.gf fs
/-- the first n cells alone -/
def trim (n : Nat) (h : EH) : Option EH := if h.length = n then some h else if (h.take n).all pureC = true then some (h.take n) else none
def frz1I (n : Nat) (h : EH) (d : D) : Option D := match d with
  | .ref m => if m < n then some (.ref m) else (match h[m]? with
    | some (.lst ds) => if noRef.go ds = true then some (.lst ds) else none
    | some (.obj C fs) => if noRef.gf fs = true then some (.obj C fs) else none
    | some (.dic t kvs) => if noRef.gp kvs = true then some (.dic t kvs) else none
    | _ => none)
  | d => if noRef d = true then some d else none
def frzLI (n : Nat) (h : EH) : List D → Option (List D)
  | [] => some []
  | d :: ds => match frz1I n h d, frzLI n h ds with
    | some x, some xs => some (x :: xs)
    | _, _ => none
def frzI (n : Nat) (h : EH) (d : D) : Option D := match d with
  | .tup ds => (frzLI n h ds).map .tup
  | .lst ds => (frzLI n h ds).map .lst
  | d => frz1I n h d
abbrev RC.cut (c : RC) (n : Nat) : RC := { c with ρ := c.ρ.take n }
theorem cut_sub {c : RC} {n : Nat} : ∀ a, c.B a ∨ a ∈ c.ρ.take n → c.B a ∨ a ∈ c.ρ := fun a z => z.imp id List.mem_of_mem_take
theorem cut_not {c : RC} {h : EH} {n m : Nat} {a : Addr} (s : SR c h) (hm : c.ρ[m]? = some a) (hn : n ≤ m) : a ∉ c.ρ.take n := fun z => by
  obtain ⟨j, hj, e⟩ := List.mem_iff_getElem.mp z
  rw [List.getElem_take] at e
  obtain ⟨h2, e2⟩ := List.getElem?_eq_some_iff.mp hm
  have hj' : j < c.ρ.length := by rw [List.length_take] at hj; omega
  have := (List.getElem_inj s.nd).mp (e.trans e2.symm)
  rw [List.length_take] at hj
  omega
theorem frz1I_ok {c : RC} {h : EH} {n : Nat} {d e : D} {v : V} (s : SR c h) (r : Rep c d v) (q : frz1I n h d = some e) : Rep (c.cut n) e v := by
  have fin : (if noRef d = true then some d else none) = some e → Rep (c.cut n) e v := fun q => by
    by_cases hc : noRef d = true
    · rw [if_pos hc] at q; cases q; exact r.re cut_sub hc
    · rw [if_neg hc] at q; cases q
  cases r with
  | @ref m a hn =>
    unfold frz1I at q
    dsimp only at q
    by_cases hmn : m < n
    · rw [if_pos hmn] at q
      cases q
      exact .ref (by rw [List.getElem?_take_of_lt hmn]; exact hn)
    · rw [if_neg hmn] at q
      cases q2 : h[m]? with
      | none => rw [q2] at q; cases q
      | some k =>
        rw [q2] at q
        have cr := s.cells m a k hn q2
        have nb : ¬ c.B a := fun z => s.nb a (List.mem_of_getElem? hn) z
        have nm := cut_not (n := n) s hn (by omega)
        cases k with
        | lst ds =>
          dsimp only at q
          by_cases hc : noRef.go ds = true
          · rw [if_pos hc] at q
            cases q
            obtain ⟨xs, e1, e2⟩ := cr
            exact .lst e1 ⟨nb, nm⟩ (e2.re cut_sub hc)
          · rw [if_neg hc] at q; cases q
        | dic t kvs =>
          dsimp only at q
          by_cases hc : noRef.gp kvs = true
          · rw [if_pos hc] at q
            cases q
            obtain ⟨o, zs, e1, e3, e2⟩ := cr
            exact .dic e1 e3 ⟨nb, nm⟩ (e2.re cut_sub hc)
          · rw [if_neg hc] at q; cases q
        | obj C fs =>
          dsimp only at q
          by_cases hc : noRef.gf fs = true
          · rw [if_pos hc] at q
            cases q
            obtain ⟨Ca, dx, vs, e0, e1, e2⟩ := cr
            exact .obj e0 e1 ⟨nb, nm⟩ (e2.re cut_sub hc)
          · rw [if_neg hc] at q; cases q
  | _ => exact fin q
theorem frzLI_ok {c : RC} {h : EH} {n : Nat} (s : SR c h) : ∀ {ds es : List D} {vs : List V}, Reps c ds vs → frzLI n h ds = some es → Reps (c.cut n) es vs
  | _, _, _, .nil, q => by cases q; exact .nil
  | d :: ds, es, _, .cons r t, q => by
    unfold frzLI at q
    cases q1 : frz1I n h d with
    | none => rw [q1] at q; cases q
    | some x =>
      cases q2 : frzLI n h ds with
      | none => rw [q1, q2] at q; cases q
      | some xs => rw [q1, q2] at q; cases q; exact .cons (frz1I_ok s r q1) (frzLI_ok s t q2)
theorem frzI_ok {c : RC} {h : EH} {n : Nat} {d e : D} {v : V} (s : SR c h) (r : Rep c d v) (q : frzI n h d = some e) : Rep (c.cut n) e v := by
  cases r with
  | @tup a ds xs k1 k2 =>
    have q' : (frzLI n h ds).map D.tup = some e := q
    cases q1 : frzLI n h ds with
    | none => rw [q1] at q'; cases q'
    | some es => rw [q1] at q'; cases q'; exact .tup k1 (frzLI_ok s k2 q1)
  | @lst a ds xs k1 k2 k3 =>
    have q' : (frzLI n h ds).map D.lst = some e := q
    cases q1 : frzLI n h ds with
    | none => rw [q1] at q'; cases q'
    | some es => rw [q1] at q'; cases q'; exact .lst k1 ⟨k2.1, fun z => k2.2 (List.mem_of_mem_take z)⟩ (frzLI_ok s k3 q1)
  | non => exact frz1I_ok s .non q
  | bl b => exact frz1I_ok s (.bl b) q
  | int i => exact frz1I_ok s (.int i) q
  | str cs => exact frz1I_ok s (.str cs) q
  | obj m k1 k2 k3 => exact frz1I_ok s (.obj m k1 k2 k3) q
  | dic k1 k2 k3 k4 => exact frz1I_ok s (.dic k1 k2 k3 k4) q
  | ref hn => exact frz1I_ok s (.ref hn) q
  | scr k1 k2 => exact frz1I_ok s (.scr k1 k2) q
theorem trim_ok {c : RC} {h h1 : EH} {n : Nat} (s : SR c h) (q : trim n h = some h1) : SR (c.cut n) h1 := by
  unfold trim at q
  by_cases e : h.length = n
  · rw [if_pos e] at q
    cases q
    have e2 : c.ρ.take n = c.ρ := List.take_of_length_le (by rw [s.len, e]; exact Nat.le_refl _)
    have e3 : c.cut n = c := by
      show ({ c with ρ := c.ρ.take n } : RC) = c
      rw [e2]
    rw [e3]; exact s
  · rw [if_neg e] at q
    by_cases hp : (h.take n).all pureC = true
    · rw [if_pos hp] at q
      cases q
      refine ⟨by rw [List.length_take, List.length_take, s.len], s.nd.sublist (List.take_sublist _ _), fun m a k e1 e2 => ?_, fun a ha => s.nb a (List.mem_of_mem_take ha), s.bt⟩
      have hm : m < n := by
        have := (List.getElem?_eq_some_iff.mp e2).1
        rw [List.length_take] at this
        omega
      have e1' : c.ρ[m]? = some a := by
        have z : (c.ρ.take n)[m]? = some a := e1
        rwa [List.getElem?_take_of_lt hm] at z
      have e2' : h[m]? = some k := by rwa [List.getElem?_take_of_lt hm] at e2
      have hk : pureC k = true := List.all_eq_true.mp hp k (List.mem_of_getElem? e2)
      have r := s.cells m a k e1' e2'
      cases k with
      | lst ds => obtain ⟨xs, h1, h2⟩ := r; exact ⟨xs, h1, h2.re cut_sub hk⟩
      | dic t kvs => obtain ⟨o, zs, h1, h3, h2⟩ := r; exact ⟨o, zs, h1, h3, h2.re cut_sub hk⟩
      | obj C fs => obtain ⟨Ca, dx, vs, h0, h1, h2⟩ := r; exact ⟨Ca, dx, vs, h0, h1, h2.re cut_sub hk⟩
    · rw [if_neg hp] at q; cases q
theorem le_cut {c c' : RC} (l : c.Le c') : c.Le (c'.cut c.ρ.length) := by
  refine ⟨l.K, l.mg, l.B, l.Bn, l.dom, fun n a e => ?_, fun a o e t n => ⟨(l.keep a o e t n).1, fun z => (l.keep a o e t n).2 (List.mem_of_mem_take z)⟩, l.tup, l.frz⟩
  have hn := (List.getElem?_eq_some_iff.mp e).1
  show (c'.ρ.take c.ρ.length)[n]? = some a
  rw [List.getElem?_take_of_lt hn]
  exact l.pre n a e

/-! ### defs that write cells -/
abbrev IF := List D → EH → Option (R D × EH)
def endI (n : Nat) (x : Option (RS × EH)) : Option (R D × EH) := match x with
  | some (.rt d, h) => (match frzI n h d, trim n h with
    | some d', some h1 => some (.ok d', h1)
    | _, _ => none)
  | some (.nx _, h) => (trim n h).map fun h1 => (.ok .non, h1)
  | some (.ex e _, h) => if noRef.gf e.fs = true then (trim n h).map fun h1 => (.ex e, h1) else none
  | _ => none
def runI (n : Nat) (m : MS) : IF := fun ds h => endI h.length (m (startE n ds) h)
/-- the def gives a new cell -/
def endA (n : Nat) (x : Option (RS × EH)) : Option (R D × EH) := match x with
  | some (.rt (.ref m), h) => if n = m ∧ h.length = n + 1 then some (.ok (.ref n), h) else none
  | _ => none
def runA (n : Nat) (m : MS) : IF := fun ds h => endA h.length (m (startE n ds) h)
def SpI (K : PySem.W.Frag) (mg : Str → Option Value) (n : Nat) (F : IF) : Sp := fun vs H Q E => ∃ (c : RC) (h : EH) (ds : List D) (r : R D) (h' : EH), c.K = K ∧ c.mg = mg ∧ c.H = H ∧ SR c h ∧ Reps c ds vs ∧ ds.length = n ∧ F ds h = some (r, h') ∧
  (∀ d, r = .ok d → ∀ c' v, c.Le c' → SR c' h' → Rep c' d v → Q v c'.H) ∧ (∀ e, r = .ex e → ∀ c' cls dx, c.Le c' → SR c' h' → ExR c' e cls dx → E cls dx c'.H)
structure FnI (P : Program) (w : World) (K : PySem.W.Frag) (mg : Str → Option Value) (base : Heap) (x : Str) (k n : Nat) (F : IF) : Prop where
  ex : ∃ (f : Addr) (fd : FuncData) (ps : List Str), mg x = some (.ref f) ∧ PySem.W.keepIn K (.ref f) = true ∧ Binds K fd ps [] ∧ ps.length = n ∧ FnOk P w K mg base (L2.CX P w) k f fd ps (SpI K mg n F)
section
variable {P : Program} {w : World} {K : PySem.W.Frag} {mg : Str → Option Value} {base : Heap}
theorem bodyI_of {N : List Str} {m : MS} {vs : List V} {H : Hp} {Q : VK} {E : XK} {n : Nat} (h : SpI K mg n (runI N.length m) vs H Q E) : tS K mg (fun cls d _ H' => E cls d H') m { nx := fun _ H' => Q .non H', rt := Q } (L2.start N vs) H := by
  obtain ⟨c, h, ds, r, h', hK, hm, rfl, sr, rv, hn, e, go, gx⟩ := h
  unfold runI at e
  cases q : m (startE N.length ds) h with
  | none => rw [q] at e; cases e
  | some z =>
    obtain ⟨rs, h2⟩ := z
    rw [q] at e
    refine ⟨c, startE N.length ds, h, rs, h2, hK, hm, rfl, sr, start_envR rv, q, ?_⟩
    rw [← sr.len] at e
    cases rs with
    | nx ε' =>
      have e' : (trim c.ρ.length h2).map (fun h1 => (R.ok D.non, h1)) = some (r, h') := e
      cases q1 : trim c.ρ.length h2 with
      | none => rw [q1] at e'; cases e'
      | some h1 =>
        rw [q1] at e'
        cases e'
        exact fun c' σ' l s en => go _ rfl (c'.cut c.ρ.length) _ (le_cut l) (trim_ok s q1) .non
    | rt d =>
      have e' : (match frzI c.ρ.length h2 d, trim c.ρ.length h2 with
        | some d', some h1 => some (R.ok d', h1)
        | _, _ => none) = some (r, h') := e
      cases q1 : frzI c.ρ.length h2 d with
      | none => rw [q1] at e'; cases e'
      | some d' =>
        cases q2 : trim c.ρ.length h2 with
        | none => rw [q1, q2] at e'; cases e'
        | some h1 =>
          rw [q1, q2] at e'
          cases e'
          exact fun c' v l s rd => go _ rfl (c'.cut c.ρ.length) v (le_cut l) (trim_ok s q2) (frzI_ok s rd q1)
    | bk ε' => cases e
    | ct ε' => cases e
    | ex x ε' =>
      have e' : (if noRef.gf x.fs = true then (trim c.ρ.length h2).map (fun h1 => (R.ex x, h1)) else none) = some (r, h') := e
      by_cases hc : noRef.gf x.fs = true
      · rw [if_pos hc] at e'
        cases q1 : trim c.ρ.length h2 with
        | none => rw [q1] at e'; cases e'
        | some h1 =>
          rw [q1] at e'
          cases e'
          refine fun c' σ' cls dx l s en xr => gx _ rfl (c'.cut c.ρ.length) cls dx (le_cut l) (trim_ok s q1) ?_
          obtain ⟨Ca, d, vs, h1, h2, h3, h4, h5, h6⟩ := xr
          exact ⟨Ca, d, vs, h1, h2, h3, h4, ⟨h5.1, fun z => h5.2 (List.mem_of_mem_take z)⟩, h6.re cut_sub hc⟩
      · rw [if_neg hc] at e'; cases e'
theorem bodyA_of {N : List Str} {m : MS} {vs : List V} {H : Hp} {Q : VK} {E : XK} {n : Nat} (h : SpI K mg n (runA N.length m) vs H Q E) : tS K mg (fun cls d _ H' => E cls d H') m { nx := fun _ H' => Q .non H', rt := Q } (L2.start N vs) H := by
  obtain ⟨c, h, ds, r, h', hK, hm, rfl, sr, rv, hn, e, go, gx⟩ := h
  unfold runA at e
  cases q : m (startE N.length ds) h with
  | none => rw [q] at e; cases e
  | some z =>
    obtain ⟨rs, h2⟩ := z
    rw [q] at e
    refine ⟨c, startE N.length ds, h, rs, h2, hK, hm, rfl, sr, start_envR rv, q, ?_⟩
    cases rs with
    | rt d =>
      cases d with
      | ref m' =>
        have e' : (if h.length = m' ∧ h2.length = h.length + 1 then some (R.ok (D.ref h.length), h2) else none) = some (r, h') := e
        by_cases hc : h.length = m' ∧ h2.length = h.length + 1
        · rw [if_pos hc] at e'
          cases e'
          rw [← hc.1]
          exact fun c' v l s rd => go _ rfl c' v l s rd
        · rw [if_neg hc] at e'; cases e'
      | _ => cases e
    | _ => cases e
theorem fnI {x qual : Str} {params : Arguments} {body : List Stmt} {scope : Scope} {f : Addr} {fd : FuncData} {N ps : List Str} {k : Nat} {m : MS} {dvs : List V} {kws : List (Str × V)} (F : FunD K x qual params body scope dvs kws f fd) (S : FnScope N ps scope)
    (hb : ∀ (cdv : Value) (A : Around) (outer : List Env) (s : Shared) (H : Hp) (E : XK), Room k (A.deeper (envOfC qual scope s.heap.objs.size f cdv)) → RSs (cxOf (L2.CX P w) P w K mg base N qual scope f cdv A outer s H E) (fun cls d _ H' => E cls d H') body m) :
    FnOk P w K mg base (L2.CX P w) (k + 1) f fd ps (SpI K mg ps.length (runI N.length m)) := by
  refine F.ok S (fun vs H Q E h => ?_) (fun cdv A outer s H vs Q E hr h => ⟨_, hb cdv A outer s H E hr, bodyI_of h⟩)
  obtain ⟨c, h, ds, r, h', _, _, _, _, rv, hn, _⟩ := h
  rw [← rv.length, hn]
theorem fnA {x qual : Str} {params : Arguments} {body : List Stmt} {scope : Scope} {f : Addr} {fd : FuncData} {N ps : List Str} {k : Nat} {m : MS} {dvs : List V} {kws : List (Str × V)} (F : FunD K x qual params body scope dvs kws f fd) (S : FnScope N ps scope)
    (hb : ∀ (cdv : Value) (A : Around) (outer : List Env) (s : Shared) (H : Hp) (E : XK), Room k (A.deeper (envOfC qual scope s.heap.objs.size f cdv)) → RSs (cxOf (L2.CX P w) P w K mg base N qual scope f cdv A outer s H E) (fun cls d _ H' => E cls d H') body m) :
    FnOk P w K mg base (L2.CX P w) (k + 1) f fd ps (SpI K mg ps.length (runA N.length m)) := by
  refine F.ok S (fun vs H Q E h => ?_) (fun cdv A outer s H vs Q E hr h => ⟨_, hb cdv A outer s H E hr, bodyA_of h⟩)
  obtain ⟨c, h, ds, r, h', _, _, _, _, rv, hn, _⟩ := h
  rw [← rv.length, hn]
end
def mCallI (F : IF) (a : M (List D)) : M D := fun ε h => bR (a ε h) fun ds h1 => F ds h1
section
variable {X : Cx} {W : WX}
theorem callI_of {K : PySem.W.Frag} {mg : Str → Option Value} {n : Nat} {F : IF} {a : M (List D)} {σ : L2.St} {H : Hp} {Q : VK} (hn : ArN n a) (h : tE K mg W (mCallI F a) σ H Q) :
    tCallSD (SpI K mg n F) [] (fun σ cls d H' => W cls d σ H') (tA K mg W a) σ H Q := by
  obtain ⟨c, ε, h, r, h', hK, hm, rfl, sr, er, e, px, go⟩ := h
  unfold tCallSD
  cases q : a ε h with
  | none => rw [mCallI, q] at e; cases e
  | some z =>
    obtain ⟨ra, h1⟩ := z
    rw [mCallI, q] at e
    cases ra with
    | ex x =>
      cases e
      exact ⟨c, ε, h, .ex x, _, hK, hm, rfl, sr, er, q, fun y ey => px y (by cases ey; rfl), fun a' ea => nomatch ea⟩
    | ok ds =>
      refine ⟨c, ε, h, .ok ds, h1, hK, hm, rfl, sr, er, q, Px.ok, fun ds' eds c1 vs l1 s1 r1 => ?_⟩
      cases eds
      rw [List.append_nil]
      exact ⟨c1, h1, ds, r, h', l1.K.trans hK, l1.mg.trans hm, rfl, s1, r1, hn _ _ _ _ q, e, fun d ed c' v l s rd => go d ed c' v (l1.trans l) s rd, fun x ex c' cls dx l s xr => px x ex c' cls dx (l1.trans l) s xr⟩
theorem re_callI {x : Str} {p pos : Pos} {e : Expr} {es : List Expr} {k j n : Nat} {F : IF} {ma : M (List D)} (G : FnI X.prog X.w X.K X.mg X.base x k n F) (hr : Room j X.A) (tk : Takes X W) (ha : RA X W (e :: es) ma) (hk : k ≤ j := by decide)
    (hn : ArN n ma := by repeat (first | exact ar_nil | refine ar_cons ?_)) (hg : Gl X x := by rfl)
    (hdb : (x == ("__debug__" : Str)) = false := by decide) (he : starEach (e :: es) X.env = (false, eval e X.env) :: starEach es X.env := by rfl) (hpl : (backTo pos (starEach es X.env)).any (·.1) = false := by rfl) :
    RE X W (.Call (.Name x p) (e :: es) [] pos) (mCallI F ma) := by
  obtain ⟨f, fd, ps, hm, hkp, hb, hl, F⟩ := G.ex
  exact pe_imp (pe_callSD F (hr.mono hk) hg hm hkp hb .nil (fun σ => passAt tk σ) ha hdb he hpl) fun σ H Q h => callI_of hn h
end
/-! ### a list that may be written: a new cell -/
def thaw (h : EH) (ds : List D) : D × EH := (.ref h.length, h ++ [.lst ds])
/-- [..] as a cell -/
def mLstC (m : M (List D)) : M D := fun ε h => bR (m ε h) fun ds h1 => if ds.length ≤ sizeLine then some (.ok (.ref h1.length), h1 ++ [.lst ds]) else none
theorem SR.cell {c : RC} {h : EH} {p : Addr} {ds : List D} {xs : List V} (s : SR c h) (hp : c.H p = none) (r : Reps c ds xs) : c.Le { c with ρ := c.ρ ++ [p], H := upd c.H p (.lst xs) } ∧ SR { c with ρ := c.ρ ++ [p], H := upd c.H p (.lst xs) } (h ++ [.lst ds]) := by
  have np : p ∉ c.ρ := fun z => by
    obtain ⟨o, e⟩ := s.ex z
    rw [hp] at e; cases e
  have ne : ∀ a o, c.H a = some o → a ≠ p := fun a o e z => by rw [z, hp] at e; cases e
  have l : c.Le { c with ρ := c.ρ ++ [p], H := upd c.H p (.lst xs) } := by
    refine ⟨rfl, rfl, fun _ h => h, fun _ h => .inl h, fun a u e => ⟨u, (upd_ne (ne a u e)).trans e⟩, fun n a e => ?_, fun a u e _ n => ⟨(upd_ne (ne a u e)).trans e, fun z => ?_⟩, fun a ys e => ?_, fun a o u e => (upd_ne (ne a _ e)).trans e⟩
    · show (c.ρ ++ [p])[n]? = some a
      rw [List.getElem?_append_left (List.getElem?_eq_some_iff.mp e).1]
      exact e
    · rcases List.mem_append.mp z with z | z
      · exact n z
      · exact ne a u e (List.mem_singleton.mp z)
    · rcases e with e | ⟨u, e⟩
      · exact .inl ((upd_ne (ne a _ e)).trans e)
      · exact .inr ⟨u, (upd_ne (ne a _ e)).trans e⟩
  refine ⟨l, ⟨by rw [List.length_append, List.length_append, s.len]; rfl, ?_, fun n a k e1 e2 => ?_, fun a ha z => ?_, fun a hb => ?_⟩⟩
  · rw [List.nodup_append]
    refine ⟨s.nd, by simp, fun a ha b hb => ?_⟩
    rw [List.mem_singleton.mp hb]
    exact fun z => np (z ▸ ha)
  · have e1' : (c.ρ ++ [p])[n]? = some a := e1
    by_cases hn : n < c.ρ.length
    · rw [List.getElem?_append_left hn] at e1'
      rw [List.getElem?_append_left (by rw [← s.len]; exact hn)] at e2
      have cr := s.cells n a k e1' e2
      obtain ⟨o, eo⟩ := cr.ex
      exact cr.le l (upd_ne (ne a o eo))
    · rw [List.getElem?_append_right (by omega)] at e1'
      rw [List.getElem?_append_right (by rw [← s.len]; omega), ← s.len] at e2
      cases q : n - c.ρ.length with
      | zero =>
        rw [q] at e1' e2
        cases e1'
        cases e2
        exact ⟨xs, upd_same, r.le l⟩
      | succ m =>
        rw [q] at e1'
        simp at e1'
  · rcases List.mem_append.mp ha with ha | ha
    · exact s.nb a ha z
    · rw [List.mem_singleton.mp ha] at z
      obtain ⟨o, e⟩ := s.bt p z
      rw [hp] at e; cases e
  · obtain ⟨o, e⟩ := s.bt a hb
    exact ⟨o, (upd_ne (ne a o e)).trans e⟩
theorem re_lstC {X : Cx} {W : WX} {es : List Expr} {m : M (List D)} {pos} (h : RA X W es m) : RE X W (.List es pos) (mLstC m) := by
  refine pe_imp (pe_lst h) fun σ H Q h => ?_
  obtain ⟨c, ε, h, r', h', hK, hm, rfl, sr, er, e, px, go⟩ := h
  unfold tLst
  refine tX.bind hK hm sr er e px fun ds h1 c1 xs e1 l1 s1 r1 => ?_
  by_cases hz : ds.length ≤ sizeLine
  · rw [if_pos hz] at e1
    cases e1
    refine ⟨by rw [← r1.length]; exact hz, fun p hp => ?_⟩
    obtain ⟨l2, s2⟩ := s1.cell hp r1
    refine go _ rfl _ _ (l1.trans l2) s2 (.ref ?_)
    show (c1.ρ ++ [p])[h1.length]? = some p
    rw [← s1.len, List.getElem?_append_right (Nat.le_refl _), Nat.sub_self]
    rfl
  · rw [if_neg hz] at e1; cases e1
end PD

namespace PD
open PySem PySem.Spec PyProof.Rows L2

/-! ### isinstance with built-in classes -/
inductive Ty where
  | non | bool | int | str | tup | lst | dic
  deriving DecidableEq
def Ty.nm : Ty → String
  | .non => "NoneType" | .bool => "bool" | .int => "int" | .str => "str" | .tup => "tuple" | .lst => "list" | .dic => "dict"
def isa : Ty → Ty → Bool
  | .non, .non => true | .bool, .bool => true | .bool, .int => true | .int, .int => true | .str, .str => true | .tup, .tup => true | .lst, .lst => true | .dic, .dic => true
  | _, _ => false
theorem kit_isa : ∀ a b : Ty, kitB a.nm b.nm = some (isa a b) := by
  intro a b
  cases a <;> cases b <;> decide +kernel
def tyD (h : EH) (d : D) : Option Ty := match d with
  | .non => some .non
  | .bl _ => some .bool
  | .int _ => some .int
  | .str _ => some .str
  | .tup _ => some .tup
  | .lst _ => some .lst
  | .ref n => (match h[n]? with
    | some (.lst _) => some .lst
    | _ => none)
  | _ => none
theorem tyD_ok {c : RC} {h : EH} {d : D} {v : V} {t : Ty} (s : SR c h) (r : Rep c d v) (e : tyD h d = some t) : TyX c.K c.H v (.type t.nm) := by
  cases r with
  | non => cases e; exact .base .non
  | bl b => cases e; exact .base (.bl b)
  | int i => cases e; exact .base (.int i)
  | str cs => cases e; exact .base (.str _)
  | @tup a ds xs k1 k2 =>
    cases e
    rcases k1 with (k1 | ⟨o, k1⟩) | ⟨o, its, n, k1, k3, _⟩
    · exact .base (.tup k1)
    · exact .fTuple k1
    · exact .kTuple k1 k3
  | @lst a ds xs k1 k2 k3 =>
    cases e
    exact .base (.lst k1)
  | scr _ _ => cases e
  | obj _ _ _ _ => cases e
  | dic _ _ _ _ => cases e
  | @ref n a hn =>
    unfold tyD at e
    dsimp only at e
    cases q : h[n]? with
    | none => rw [q] at e; cases e
    | some k =>
      rw [q] at e
      cases k with
      | lst ds =>
        cases e
        obtain ⟨xs, e1, _⟩ := s.cells n a _ hn q
        exact .base (.lst e1)
      | _ => cases e
def mIsi (ts : List Ty) (a : M D) : M D := fun ε h => bR (a ε h) fun d h1 => match tyD h1 d with
  | some t => some (.ok (.bl (ts.any (isa t))), h1)
  | none => none
section
variable {X : Cx} {W : WX}
theorem re_isi (T : Ty) {e : Expr} {x : Str} {p p2 pos : Pos} {m : M D} (hm : X.mg "isinstance" = none) (hmx : X.mg x = none) (he : RE X W e m) (hv : bootBuiltins x = some (.type T.nm) := by decide +kernel)
    (hg : Gl X "isinstance" := by rfl) (hgx : Gl X x := by rfl) (hnx : x ≠ "__name__" := by decide) (hdx : (x == ("__debug__" : Str)) = false := by decide)
    (hs1 : starEach [e, .Name x p2] X.env = (false, eval e X.env) :: starEach [.Name x p2] X.env := by rfl) (hs2 : starEach [.Name x p2] X.env = (false, eval (.Name x p2) X.env) :: starEach [] X.env := by rfl)
    (hpl : (backTo pos (starEach [.Name x p2] X.env)).any (·.1) = false := by rfl) : RE X W (.Call (.Name "isinstance" p) [e, .Name x p2] [] pos) (mIsi [T] m) := by
  refine pe_imp (pe_callB (x := "isinstance") call_isi hg hm (by decide +kernel) (pa_cons he (pa_cons (pe_bltn (v := .ty T.nm) (u := .type T.nm) hgx hmx hv rfl hnx hdx) pa_nil hs2) hs1) (by decide) (by decide) hs1 hpl) fun σ H Q h => ?_
  obtain ⟨c, ε, h, r, h', hK, hm, rfl, sr, er, e, px, go⟩ := h
  unfold tCB tCons tC tNil
  refine tX.bind hK hm sr er e px fun d h1 c1 v e1 l1 s1 r1 => ?_
  cases q : tyD h1 d with
  | none => rw [q] at e1; cases e1
  | some t =>
    rw [q] at e1
    cases e1
    have ty := tyD_ok s1 r1 q
    rw [l1.K.trans hK] at ty
    refine ⟨v, .ty T.nm, _, _, isa t T, rfl, .ty _, ty, kit_ty (kit_isa t T), go _ rfl c1 _ l1 s1 ?_⟩
    simpa using Rep.bl (isa t T)
theorem re_isi2 (T U : Ty) {e : Expr} {x y : Str} {p p2 p3 p4 pos : Pos} {k : Nat} {m : M D} (hm : X.mg "isinstance" = none) (hmx : X.mg x = none) (hmy : X.mg y = none) (he : RE X W e m) (hv : bootBuiltins x = some (.type T.nm) := by decide +kernel) (hvy : bootBuiltins y = some (.type U.nm) := by decide +kernel)
    (hg : Gl X "isinstance" := by rfl) (hgx : Gl X x := by rfl) (hgy : Gl X y := by rfl) (hnx : x ≠ "__name__" := by decide) (hdx : (x == ("__debug__" : Str)) = false := by decide) (hny : y ≠ "__name__" := by decide) (hdy : (y == ("__debug__" : Str)) = false := by decide)
    (hs1 : starEach [e, .Tuple [.Name x p2, .Name y p3] k p4] X.env = (false, eval e X.env) :: starEach [.Tuple [.Name x p2, .Name y p3] k p4] X.env := by rfl) (hs2 : starEach [.Tuple [.Name x p2, .Name y p3] k p4] X.env = (false, eval (.Tuple [.Name x p2, .Name y p3] k p4) X.env) :: starEach [] X.env := by rfl)
    (hs3 : starEach [.Name x p2, .Name y p3] X.env = (false, eval (.Name x p2) X.env) :: starEach [.Name y p3] X.env := by rfl) (hs4 : starEach [.Name y p3] X.env = (false, eval (.Name y p3) X.env) :: starEach [] X.env := by rfl)
    (hpl : (backTo pos (starEach [.Tuple [.Name x p2, .Name y p3] k p4] X.env)).any (·.1) = false := by rfl) : RE X W (.Call (.Name "isinstance" p) [e, .Tuple [.Name x p2, .Name y p3] k p4] [] pos) (mIsi [T, U] m) := by
  refine pe_imp (pe_callB (x := "isinstance") call_isiT hg hm (by decide +kernel) (pa_cons he (pa_cons (pe_tup (pa_cons (pe_bltn (v := .ty T.nm) (u := .type T.nm) hgx hmx hv rfl hnx hdx) (pa_cons (pe_bltn (v := .ty U.nm) (u := .type U.nm) hgy hmy hvy rfl hny hdy) pa_nil hs4) hs3)) pa_nil hs2) hs1) (by decide) (by decide) hs1 hpl) fun σ H Q h => ?_
  obtain ⟨c, ε, h, r, h', hK, hm, rfl, sr, er, e, px, go⟩ := h
  unfold tCB tCons tTup tC tNil
  refine tX.bind hK hm sr er e px fun d h1 c1 v e1 l1 s1 r1 => ?_
  refine ⟨by show 2 ≤ sizeLine; decide, fun tp htp => ?_⟩
  cases q : tyD h1 d with
  | none => rw [q] at e1; cases e1
  | some t =>
    rw [q] at e1
    cases e1
    obtain ⟨l2, s2, f2⟩ := s1.new (o := .tup [.ty T.nm, .ty U.nm]) htp
    have ty := tyD_ok s2 (r1.le l2) q
    have hK2 : (c1.put tp (.tup [.ty T.nm, .ty U.nm])).K = X.K := l1.K.trans hK
    rw [hK2] at ty
    refine ⟨v, tp, [.ty T.nm, .ty U.nm], _, [.type T.nm, .type U.nm], [T, U].any (isa t), rfl, upd_same, .cons (.ty _) (.cons (.ty _) .nil), ty, ?_, go _ rfl _ _ (l1.trans l2) s2 (.bl _)⟩
    refine kitAny_cons (b := isa t T) (kit_ty (kit_isa t T)) (fun hb => ?_) fun hb => by simp [hb]
    refine kitAny_cons (b := isa t U) (kit_ty (kit_isa t U)) (fun hb2 => ?_) fun hb2 => by simp [hb2]
    rw [kitAny_nil]
    simp [hb, hb2]

/-! ### methods of texts -/
def MtS (K : PySem.W.Frag) (mg : Str → Option Value) (r : V → List V → Hp → VK → Prop) (f : EH → List Nat → List D → Option D) : Prop := ∀ (c : RC) (h : EH) (z : List Nat) (xs : List V) (ds : List D) (d : D) (Q : VK), c.K = K → c.mg = mg → SR c h → Reps c ds xs → f h z ds = some d →
  (∀ c' v, c.Le c' → SR c' h → Rep c' d v → Q v c'.H) → r (.str ⟨z.toArray⟩) xs c.H Q
def mMtS (f : EH → List Nat → List D → Option D) (o : M D) (a : M (List D)) : M D := fun ε h => bR (o ε h) fun x h1 => match x with
  | .str z => bR (a ε h1) fun ds h2 => rt (f h2 z ds) h2
  | _ => none
theorem mts_of {K : PySem.W.Frag} {mg : Str → Option Value} {r : V → List V → Hp → VK → Prop} {f : EH → List Nat → List D → Option D} {o : M D} {a : M (List D)} (hs : MtS K mg r f) {σ : L2.St} {H : Hp} {Q : VK} (h : tE K mg W (mMtS f o a) σ H Q) : tBM K "str" r (tE K mg W o) (tA K mg W a) σ H Q := by
  obtain ⟨c, ε, h, r', h', hK, hm, rfl, sr, er, e, px, go⟩ := h
  unfold tBM
  refine tX.bind hK hm sr er e px fun d h1 c1 v e1 l1 s1 r1 => ?_
  cases r1 with
  | str z =>
    refine ⟨rfl, ?_⟩
    refine tX.bind (l1.K.trans hK) (l1.mg.trans hm) s1 (er.le l1) e1 (px.le l1) fun ds h2 c2 xs e2 l2 s2 r2 => ?_
    cases q : f h2 z ds with
    | none => rw [q] at e2; cases e2
    | some d =>
      rw [q] at e2
      cases e2
      exact hs c2 _ z xs ds d Q ((l2.K.trans l1.K).trans hK) ((l2.mg.trans l1.mg).trans hm) s2 r2 q fun c' v l s r => go d rfl c' v ((l1.trans l2).trans l) s r
  | _ => cases e1
theorem re_mts {id : String} {name : Str} {r : V → List V → Hp → VK → Prop} {f : EH → List Nat → List D → Option D} {o e : Expr} {es : List Expr} {apos cpos : Pos} {mo : M D} {ma : M (List D)} (slot : Slot "str" name id) (hty : typeOf (.builtin id) = pure (.type "method_descriptor")) (hm : MtR X id r) (hs : MtS X.K X.mg r f) (ho : RE X W o mo) (ha : RA X W (e :: es) ma)
    (hbase : attributeBase o name X.env (eval o X.env) = eval o X.env := by rfl)
    (hfew : ((backTo cpos (starEach (e :: es) X.env)).all (fun x => !x.1) && (backToKw cpos (keywordEach [] X.env)).all (fun x => x.1.isSome)
      && decide ((e :: es).length + ([] : List Keyword).length + (if ([] : List Keyword).isEmpty then 0 else 1) < 30)) = true := by rfl)
    (hline : (apos.endLine == cpos.line) = true := by rfl) (hss : starEach (e :: es) X.env = (false, eval e X.env) :: starEach es X.env := by rfl) (hplain : (backTo cpos (starEach es X.env)).any (·.1) = false := by rfl) :
    RE X W (.Call (.Attribute o name apos) (e :: es) [] cpos) (mMtS f mo ma) :=
  pe_imp (pe_bm PySem.F.plainAttrs_str slot hty hm ho ha hbase hfew hline hss hplain) fun _ _ _ h => mts_of hs h
end
/-- lists of texts -/
def asTs : List D → Option (List (List Nat))
  | [] => some []
  | .str z :: ds => (asTs ds).map (z :: ·)
  | _ :: _ => none
theorem asTs_ok {c : RC} : ∀ {ds : List D} {xs : List V} {zs : List (List Nat)}, Reps c ds xs → asTs ds = some zs → xs = (zs.map fun z => (⟨z.toArray⟩ : Str)).map V.str
  | _, _, bs, .nil, e => by cases e; rfl
  | _, _, bs, .cons h t, e => by
    cases h with
    | str z =>
      unfold asTs at e
      rename_i ds vs
      cases q : asTs ds with
      | none => rw [q] at e; cases e
      | some cs => rw [q] at e; cases e; rw [asTs_ok t q]; rfl
    | _ => cases e
def joinT (sep : List Nat) : List (List Nat) → List Nat
  | [] => []
  | [x] => x
  | x :: r => x ++ sep ++ joinT sep r
def dJoin (h : EH) (z : List Nat) (ds : List D) : Option D := match ds with
  | [d] => (match asS h d with
    | some xs => (match asTs xs with
      | some zs => if (zs.map List.length).sum + zs.length * z.length ≤ 16777216 then some (.str (joinT z zs)) else none
      | none => none)
    | none => none)
  | _ => none
theorem join_eq (z : List Nat) : ∀ zs : List (List Nat), Txt.join ⟨z.toArray⟩ (zs.map fun z => (⟨z.toArray⟩ : Str)) = ⟨(joinT z zs).toArray⟩ := by
  intro zs
  show Builtin.Str.glued _ _ = _
  rw [StrLaws.glued_eq_join]
  induction zs with
  | nil => rfl
  | cons x r ih =>
    cases r with
    | nil => rfl
    | cons y r =>
      have e : Str.join (⟨z.toArray⟩ : Str) ((x :: y :: r).map fun z => (⟨z.toArray⟩ : Str)) = (⟨x.toArray⟩ : Str) ++ (⟨z.toArray⟩ : Str) ++ Str.join ⟨z.toArray⟩ ((y :: r).map fun z => (⟨z.toArray⟩ : Str)) := rfl
      rw [e, ih]
      show (⟨x.toArray ++ z.toArray ++ (joinT z (y :: r)).toArray⟩ : Str) = ⟨(x ++ z ++ joinT z (y :: r)).toArray⟩
      simp
section
variable {K : PySem.W.Frag} {mg : Str → Option Value}
theorem ms_join : MtS K mg (fun x xs H Q => ∃ a p, ∃ ys : List Str, x = .str a ∧ xs = [.ref p] ∧ (SqL K H p (ys.map V.str) ∨ SqT K H p (ys.map V.str)) ∧
    (ys.map (·.length)).sum + ys.length * a.length ≤ 16777216 ∧ Q (.str (Txt.join a ys)) H) dJoin := by
  intro c eh z xs ds d Q hK hm sr rx e go
  subst hK
  match ds, rx, e with
  | [d0], .cons r0 .nil, e =>
    cases q : asS eh d0 with
    | none => unfold dJoin at e; simp only [q] at e; cases e
    | some es =>
      unfold dJoin at e
      simp only [q] at e
      obtain ⟨a, ys, rfl, h1, r1⟩ := asS_ok sr r0 q
      cases q2 : asTs es with
      | none => rw [q2] at e; cases e
      | some zs =>
        rw [q2] at e
        dsimp only at e
        by_cases hz : (zs.map List.length).sum + zs.length * z.length ≤ 16777216
        · rw [if_pos hz] at e
          cases e
          refine ⟨_, a, zs.map fun z => (⟨z.toArray⟩ : Str), rfl, rfl, by rw [← asTs_ok r1 q2]; exact h1, ?_, by rw [join_eq]; exact go c _ (.refl c) sr (.str _)⟩
          have e1 : (zs.map fun z => (⟨z.toArray⟩ : Str)).map (·.length) = zs.map List.length := by
            rw [List.map_map]
            refine List.map_congr_left fun x _ => ?_
            simp [Str.length]
          rw [e1, List.length_map]
          simpa [Str.length] using hz
        · rw [if_neg hz] at e; cases e
  | [], _, e => cases e
  | _ :: _ :: _, _, e => cases e
end

/-! ### keywords alone -/
def permL {α : Type} (p : List Nat) (xs : List α) : List α := p.filterMap (xs[·]?)
theorem permL_vals {p : List Nat} {vs : List V} {us : List Value} (r : Vals vs us) : Vals (permL p vs) (permL p us) := by
  unfold permL
  induction p with
  | nil => exact .nil
  | cons i p ih =>
    rw [List.filterMap_cons, List.filterMap_cons]
    cases q : vs[i]? with
    | none => rw [r.none_of q]; exact ih
    | some v =>
      obtain ⟨u, e, ru⟩ := r.get q
      rw [e]
      exact .cons ru ih
theorem permL_reps {c : RC} {p : List Nat} {ds : List D} {vs : List V} (r : Reps c ds vs) : Reps c (permL p ds) (permL p vs) := by
  unfold permL
  induction p with
  | nil => exact .nil
  | cons i p ih =>
    rw [List.filterMap_cons, List.filterMap_cons]
    cases q : ds[i]? with
    | none =>
      have : vs[i]? = none := by
        rw [List.getElem?_eq_none_iff] at q ⊢
        rw [← r.length]; exact q
      rw [this]; exact ih
    | some d =>
      obtain ⟨u, e, ru⟩ := r.get q
      rw [e]
      exact .cons ru ih
abbrev RK (X : Cx) (W : WX) (kws : List Keyword) (m : M (List D)) : Prop := PK X kws (tA X.K X.mg W m)
theorem pk_imp {X : Cx} {kws : List Keyword} {t t' : TA} (h : PK X kws t) (k : ∀ σ H Q, t' σ H Q → t σ H Q) : PK X kws t' := ⟨fun pos pins s σ H Q I q => h.run pos pins s σ H Q I (k σ H Q q)⟩
section
variable {X : Cx} {W : WX}
theorem rk_nil : RK X W [] mNil := by
  refine pk_imp pk_nil fun σ H Q h => ?_
  obtain ⟨c, ε, h, r', h', hK, hm, rfl, sr, er, e, px, go⟩ := h
  cases e
  exact go _ rfl c _ (.refl c) sr .nil
theorem rk_cons {nm : Option Str} {kpos : Pos} {e : Expr} {kws : List Keyword} {me : M D} {m : M (List D)} (ha : RE X W e me) (hr : RK X W kws m) : RK X W (⟨nm, e, kpos⟩ :: kws) (mCons me m) := by
  refine pk_imp (pk_cons ha hr) fun σ H Q h => ?_
  obtain ⟨c, ε, h, r', h', hK, hm, rfl, sr, er, e, px, go⟩ := h
  unfold tCons
  refine tX.bind hK hm sr er e px fun x h1 c1 b e1 l1 s1 r1 => ?_
  refine tX.bind (l1.K.trans hK) (l1.mg.trans hm) s1 (er.le l1) e1 (px.le l1) fun xs h2 c2 ys e2 l2 s2 r2 => ?_
  cases e2
  exact go _ rfl c2 _ (l1.trans l2) s2 (.cons (r1.le l2) r2)
end
/-- f(k = v, ..): the keywords ks, put in the parameters' order by p -/
structure FnPK (P : Program) (w : World) (K : PySem.W.Frag) (mg : Str → Option Value) (base : Heap) (x : Str) (k n : Nat) (F : PF) (ks : List Str) (p : List Nat) : Prop where
  ex : ∃ (f : Addr) (fd : FuncData) (ps : List Str), mg x = some (.ref f) ∧ PySem.W.keepIn K (.ref f) = true ∧ KBn K fd ps 0 ks (fun _ ws => permL p ws) (fun _ zs => permL p zs) ∧ ps.length = n ∧ FnOk P w K mg base (L2.CX P w) k f fd ps (SpP K mg n F)
def mPerm (p : List Nat) (a : M (List D)) : M (List D) := fun ε h => bR (a ε h) fun ds h1 => some (.ok (permL p ds), h1)
section
variable {X : Cx} {W : WX}
theorem re_callPK {x : Str} {p pos : Pos} {kws : List Keyword} {ks : List Str} {pm : List Nat} {k j n : Nat} {F : PF} {ma : M (List D)} (G : FnPK X.prog X.w X.K X.mg X.base x k n F ks pm) (hr : Room j X.A) (tk : Takes X W) (ha : RK X W kws ma) (hk : k ≤ j := by decide)
    (hn : ArN ks.length ma := by repeat (first | exact ar_nil | refine ar_cons ?_)) (hpn : ∀ ds : List D, ds.length = ks.length → (permL pm ds).length = n := by intro ds hl; match ds, hl with | [_, _], _ => rfl)
    (hall : (backToKw pos (keywordEach kws X.env)).all (·.1.isSome) = true := by rfl) (hks : (backToKw pos (keywordEach kws X.env)).filterMap (·.1) = ks := by rfl) (hg : Gl X x := by rfl)
    (hdb : (x == ("__debug__" : Str)) = false := by decide) (hpl : ((backTo pos (starEach [] X.env)).any (·.1) || (backToKw pos (keywordEach kws X.env)).any (·.1.isNone)) = false := by rfl) :
    RE X W (.Call (.Name x p) [] kws pos) (mCallP F (mPerm pm ma)) := by
  obtain ⟨f, fd, ps, hm, hkp, hb, hl, Fo⟩ := G.ex
  refine ⟨fun pins s σ H Q I h => ?_⟩
  have h2 := callP_of (n := n) (fun ε h ds h' e => by
    unfold mPerm at e
    cases q : ma ε h with
    | none => rw [q] at e; cases e
    | some z =>
      obtain ⟨r1, h1⟩ := z
      rw [q] at e
      cases r1 with
      | ex x => cases e
      | ok xs => cases e; exact hpn _ (hn _ _ _ _ q)) h
  -- the keywords' values, then the call
  have h3 : tA X.K X.mg W ma σ H fun zs H' => zs.length = ks.length ∧ SpP X.K X.mg n F (permL pm zs) H' Q (fun cls d H' => W cls d σ H') := by
    obtain ⟨c, ε, eh, r, h', hK, hm', rfl, sr, er, e, px, go⟩ := h2
    unfold mPerm at e
    cases q : ma ε eh with
    | none => rw [q] at e; cases e
    | some z =>
      obtain ⟨r1, h1⟩ := z
      rw [q] at e
      cases r1 with
      | ex x => cases e; exact ⟨c, ε, eh, .ex x, _, hK, hm', rfl, sr, er, q, fun y ey => px y (by cases ey; rfl), fun a' ea => nomatch ea⟩
      | ok ds =>
        cases e
        refine ⟨c, ε, eh, .ok ds, _, hK, hm', rfl, sr, er, q, Px.ok, fun ds' eds c1 vs l1 s1 r1 => ?_⟩
        cases eds
        have := go _ rfl c1 _ l1 s1 (permL_reps r1)
        dsimp only at this
        rw [List.append_nil] at this
        exact ⟨by rw [← r1.length]; exact hn _ _ _ _ q, this⟩
  refine wpAny_Call_Name_kw (ld_glob I hg hm ?_ hdb)
  refine PySem.W.callWith_KW0 (h₀ := X.base) I.ok.mod.kin hkp hall (thn (ha.run pos pins s σ H _ I h3) fun ws s1 ⟨zs, H1, I1, rz, l1, q⟩ => ⟨I1.kIn, ?_⟩) hpl
  rw [hks]
  have r2 := hb.rel (vs := []) (us := []) .nil rz
  refine wpAny_call (codeAny_mono (Fo.run X.A X.stack s1 H1 ⟨[], ks.zip ws⟩ (permL pm ws) (permL pm zs) Q (fun cls d H' => W cls d σ H') (hr.mono hk) I1.env0 (hb.to s1 [] ws I1.kIn rfl (rz.length.symm.trans l1)) r2 q) fun r s' hq => ?_)
  cases r with
  | error e => exact passAt tk σ pins H1 s1 e s' I1 hq
  | ok fl =>
    cases fl with
    | ret u => exact I1.after hq
    | next => exact False.elim hq
    | brk => exact False.elim hq
    | cont => exact False.elim hq
end
end PD

namespace PD
open PySem PySem.Spec PyProof.Rows L2

section
variable {X : Cx} {W : WX}
/-! ### operators in one -/
def dAdd : EH → D → D → Option D := fun h x y => (dI2 (fun i j => some (.int (i + j))) h x y).or ((dCatS h x y).or ((dCatT h x y).or (dCatL h x y)))
def dSub : EH → D → D → Option D := dI2 fun i j => some (.int (i - j))
def dMul : EH → D → D → Option D := dI2 fun i j => if CMul i j then some (.int (i * j)) else none
def dDiv : EH → D → D → Option D := dI2 fun i j => if CDiv i j then some (.int (i / j)) else none
def dMod : EH → D → D → Option D := dI2 fun i j => if 0 < j then some (.int (i % j)) else none
def dPow : EH → D → D → Option D := dI2 fun i j => if CPow i j then some (.int (i ^ j.toNat)) else none
def dLt : EH → D → D → Option D := dI2 fun i j => some (.bl (decide (i < j)))
def dLe : EH → D → D → Option D := dI2 fun i j => some (.bl (decide (i ≤ j)))
def dGt : EH → D → D → Option D := dI2 fun i j => some (.bl (decide (j < i)))
def dGe : EH → D → D → Option D := dI2 fun i j => some (.bl (decide (j ≤ i)))
def dInA : EH → D → D → Option D := fun h x y => (dInS false h x y).or (dIn false h x y)
def dNinA : EH → D → D → Option D := fun h x y => (dInS true h x y).or (dIn true h x y)
variable {a b : Expr} {ma mb : M D} {pos : Pos}
theorem re_add (ha : RE X W a ma) (hb : RE X W b mb) : RE X W (.BinOp a .Add b pos) (mBin dAdd ma mb) :=
  re_bin (op_add.or (op_add_str.or (op_catA.or op_cat))) ((ops_I0 _).or (ops_catS.or (ops_catT.or ops_catL))) ha hb
theorem re_sub (ha : RE X W a ma) (hb : RE X W b mb) : RE X W (.BinOp a .Sub b pos) (mBin dSub ma mb) := re_bin op_sub (ops_I0 _) ha hb
theorem re_mul (ha : RE X W a ma) (hb : RE X W b mb) : RE X W (.BinOp a .Mult b pos) (mBin dMul ma mb) := re_bin op_mul (ops_IC CMul _) ha hb
theorem re_div (ha : RE X W a ma) (hb : RE X W b mb) : RE X W (.BinOp a .FloorDiv b pos) (mBin dDiv ma mb) := re_bin op_fdiv (ops_IC CDiv _) ha hb
theorem re_mod (ha : RE X W a ma) (hb : RE X W b mb) : RE X W (.BinOp a .Mod b pos) (mBin dMod ma mb) := re_bin op_mod (ops_IC (fun _ j => 0 < j) _) ha hb
theorem re_pow (ha : RE X W a ma) (hb : RE X W b mb) : RE X W (.BinOp a .Pow b pos) (mBin dPow ma mb) := re_bin op_pow (ops_IC CPow _) ha hb
theorem re_lt (ha : RE X W a ma) (hb : RE X W b mb) : RE X W (.Compare a [.Lt] [b] pos) (mBin dLt ma mb) := re_cmp op_lt (ops_B0 _) ha hb (nomark _)
theorem re_le (ha : RE X W a ma) (hb : RE X W b mb) : RE X W (.Compare a [.LtE] [b] pos) (mBin dLe ma mb) := re_cmp op_le (ops_B0 _) ha hb (nomark _)
theorem re_gt (ha : RE X W a ma) (hb : RE X W b mb) : RE X W (.Compare a [.Gt] [b] pos) (mBin dGt ma mb) := re_cmp op_gt (ops_B0 fun i j => decide (j < i)) ha hb (nomark _)
theorem re_ge (ha : RE X W a ma) (hb : RE X W b mb) : RE X W (.Compare a [.GtE] [b] pos) (mBin dGe ma mb) := re_cmp op_ge (ops_B0 fun i j => decide (j ≤ i)) ha hb (nomark _)
theorem re_eq {k : Nat} (hr : Room k X.A) (ha : RE X W a ma) (hb : RE X W b mb) : RE X W (.Compare a [.Eq] [b] pos) (mBin dEq ma mb) := re_cmp (op_eq.or (op_eqD hr.units)) (ops_eqS.or ops_eqD) ha hb (nomark _)
theorem re_ne {k : Nat} (hr : Room k X.A) (ha : RE X W a ma) (hb : RE X W b mb) : RE X W (.Compare a [.NotEq] [b] pos) (mBin dNe ma mb) := re_cmp (op_ne.or (op_neD hr.units)) (ops_neS.or ops_neD) ha hb (nomark _)
theorem re_in (ha : RE X W a ma) (hb : RE X W b mb) (hm : behindInMarks .In b = false := by rfl) : RE X W (.Compare a [.In] [b] pos) (mBin dInA ma mb) := re_cmp (op_in_sign.or op_in_seq) (ops_inS.or (ops_in false)) ha hb hm
theorem re_nin (ha : RE X W a ma) (hb : RE X W b mb) (hm : behindInMarks .NotIn b = false := by rfl) : RE X W (.Compare a [.NotIn] [b] pos) (mBin dNinA ma mb) := re_cmp (op_notIn_sign.or op_notIn_seq) (ops_ninS.or (ops_in true)) ha hb hm
theorem re_is (ha : RE X W a ma) (hb : RE X W b mb) : RE X W (.Compare a [.Is] [b] pos) (mBin (dIsN false) ma mb) := re_cmp op_isN ops_isN ha hb (nomark _)
theorem re_isn (ha : RE X W a ma) (hb : RE X W b mb) : RE X W (.Compare a [.IsNot] [b] pos) (mBin (dIsN true) ma mb) := re_cmp op_notN ops_isnN ha hb (nomark _)
/-! .. as tests -/
theorem rt_lt (ha : RE X W a ma) (hb : RE X W b mb) : RT X W (.Compare a [.Lt] [b] pos) (mTst (mBin dLt ma mb)) := rt_cmp op_lt (ops_B0 _) ha hb (nomark _)
theorem rt_le (ha : RE X W a ma) (hb : RE X W b mb) : RT X W (.Compare a [.LtE] [b] pos) (mTst (mBin dLe ma mb)) := rt_cmp op_le (ops_B0 _) ha hb (nomark _)
theorem rt_gt (ha : RE X W a ma) (hb : RE X W b mb) : RT X W (.Compare a [.Gt] [b] pos) (mTst (mBin dGt ma mb)) := rt_cmp op_gt (ops_B0 fun i j => decide (j < i)) ha hb (nomark _)
theorem rt_ge (ha : RE X W a ma) (hb : RE X W b mb) : RT X W (.Compare a [.GtE] [b] pos) (mTst (mBin dGe ma mb)) := rt_cmp op_ge (ops_B0 fun i j => decide (j ≤ i)) ha hb (nomark _)
theorem rt_eq {k : Nat} (hr : Room k X.A) (ha : RE X W a ma) (hb : RE X W b mb) : RT X W (.Compare a [.Eq] [b] pos) (mTst (mBin dEq ma mb)) := rt_cmp (op_eq.or (op_eqD hr.units)) (ops_eqS.or ops_eqD) ha hb (nomark _)
theorem rt_ne {k : Nat} (hr : Room k X.A) (ha : RE X W a ma) (hb : RE X W b mb) : RT X W (.Compare a [.NotEq] [b] pos) (mTst (mBin dNe ma mb)) := rt_cmp (op_ne.or (op_neD hr.units)) (ops_neS.or ops_neD) ha hb (nomark _)
theorem rt_in (ha : RE X W a ma) (hb : RE X W b mb) (hm : behindInMarks .In b = false := by rfl) : RT X W (.Compare a [.In] [b] pos) (mTst (mBin dInA ma mb)) := rt_cmp (op_in_sign.or op_in_seq) (ops_inS.or (ops_in false)) ha hb hm
theorem rt_nin (ha : RE X W a ma) (hb : RE X W b mb) (hm : behindInMarks .NotIn b = false := by rfl) : RT X W (.Compare a [.NotIn] [b] pos) (mTst (mBin dNinA ma mb)) := rt_cmp (op_notIn_sign.or op_notIn_seq) (ops_ninS.or (ops_in true)) ha hb hm
theorem rt_is (ha : RE X W a ma) (hb : RE X W b mb) : RT X W (.Compare a [.Is] [b] pos) (mTst (mBin (dIsN false) ma mb)) := rt_cmp op_isN ops_isN ha hb (nomark _)
theorem rt_isn (ha : RE X W a ma) (hb : RE X W b mb) : RT X W (.Compare a [.IsNot] [b] pos) (mTst (mBin (dIsN true) ma mb)) := rt_cmp op_notN ops_isnN ha hb (nomark _)
/-! ### two comparisons in a chain -/
def mChain (f g : EH → D → D → Option D) (a b c : M D) : M D := fun ε h => bR (a ε h) fun x h1 => bR (b ε h1) fun y h2 => bR (rt ((f h2 x y).bind asB) h2) fun k h3 => if k = true then bR (c ε h3) fun z h4 => rt (g h4 y z) h4 else some (.ok (.bl false), h3)
theorem chain_of {K : PySem.W.Frag} {mg : Str → Option Value} {r r' : R2} {f g : EH → D → D → Option D} {a b c : M D} (hs : OpS K mg r f) (hs' : OpS K mg r' g) {σ : L2.St} {H : Hp} {Q : VK} (h : tE K mg W (mChain f g a b c) σ H Q) : tChain r r' (tE K mg W a) (tE K mg W b) (tE K mg W c) σ H Q := by
  obtain ⟨c0, ε, h, r0, h', hK, hm, rfl, sr, er, e, px, go⟩ := h
  unfold tChain
  refine tX.bind hK hm sr er e px fun dx h1 c1 x e1 l1 s1 r1 => ?_
  refine tX.bind (l1.K.trans hK) (l1.mg.trans hm) s1 (er.le l1) e1 (px.le l1) fun dy h2 c2 y e2 l2 s2 r2 => ?_
  have L2' := l1.trans l2
  cases q : f h2 dx dy with
  | none => rw [q] at e2; cases e2
  | some d =>
    rw [q] at e2
    cases d with
    | bl k =>
      refine hs c2 _ x y dx dy _ _ (L2'.K.trans hK) (L2'.mg.trans hm) s2 (r1.le l2) r2 q fun c3 v l3 s3 r3 => ?_
      have L3 := L2'.trans l3
      cases r3
      refine ⟨k, rfl, ?_⟩
      cases k with
      | false =>
        rw [if_neg Bool.false_ne_true]
        cases e2
        exact go _ rfl c3 _ L3 s3 (.bl false)
      | true =>
        rw [if_pos rfl]
        have e2' : bR (c ε h2) (fun z h4 => rt (g h4 dy z) h4) = some (r0, h') := e2
        refine tX.bind (L3.K.trans hK) (L3.mg.trans hm) s3 (er.le L3) e2' (px.le L3) fun dz h4 c4 z e4 l4 s4 r4 => ?_
        cases q4 : g h4 dy dz with
        | none => rw [q4] at e4; cases e4
        | some d4 =>
          rw [q4] at e4
          cases e4
          exact hs' c4 _ y z dy dz d4 Q ((L3.trans l4).K.trans hK) ((L3.trans l4).mg.trans hm) s4 ((r2.le l3).le l4) r4 q4 fun c' v l s r => go _ rfl c' v ((L3.trans l4).trans l) s r
    | _ => cases e2
variable {c : Expr} {mc : M D}
theorem re_lele (ha : RE X W a ma) (hb : RE X W b mb) (hc : RE X W c mc) (hm : lastMarks [.LtE, .LtE] [b, c] = false := by with_unfolding_all rfl) : RE X W (.Compare a [.LtE, .LtE] [b, c] pos) (mChain dLe dLe ma mb mc) :=
  pe_imp (pe_chain op_le op_le ha hb hc hm) fun _ _ _ h => chain_of (ops_B0 _) (ops_B0 _) h
theorem rt_lele (ha : RE X W a ma) (hb : RE X W b mb) (hc : RE X W c mc) (hm : lastMarks [.LtE, .LtE] [b, c] = false := by with_unfolding_all rfl) : RT X W (.Compare a [.LtE, .LtE] [b, c] pos) (mTst (mChain dLe dLe ma mb mc)) :=
  pt_imp (pt_chain op_le op_le ha hb hc hm) fun _ _ _ h => chain_of (ops_B0 _) (ops_B0 _) (tB_of h)
theorem re_lelt (ha : RE X W a ma) (hb : RE X W b mb) (hc : RE X W c mc) (hm : lastMarks [.LtE, .Lt] [b, c] = false := by with_unfolding_all rfl) : RE X W (.Compare a [.LtE, .Lt] [b, c] pos) (mChain dLe dLt ma mb mc) :=
  pe_imp (pe_chain op_le op_lt ha hb hc hm) fun _ _ _ h => chain_of (ops_B0 _) (ops_B0 _) h
theorem rt_lelt (ha : RE X W a ma) (hb : RE X W b mb) (hc : RE X W c mc) (hm : lastMarks [.LtE, .Lt] [b, c] = false := by with_unfolding_all rfl) : RT X W (.Compare a [.LtE, .Lt] [b, c] pos) (mTst (mChain dLe dLt ma mb mc)) :=
  pt_imp (pt_chain op_le op_lt ha hb hc hm) fun _ _ _ h => chain_of (ops_B0 _) (ops_B0 _) (tB_of h)
/-! ### -a; a[i] -/
def mNeg (a : M D) : M D := fun ε h => bR (a ε h) fun x h1 => match x with
  | .int i => some (.ok (.int (-i)), h1)
  | _ => none
theorem re_neg (ha : RE X W a ma) : RE X W (.UnaryOp .USub a pos) (mNeg ma) := by
  refine pe_imp (pe_un un_neg ha) fun σ H Q h => ?_
  obtain ⟨c, ε, h, r', h', hK, hm, rfl, sr, er, e, px, go⟩ := h
  unfold tUn
  refine tX.bind hK hm sr er e px fun x h1 c1 b e1 l1 s1 r1 => ?_
  cases r1 with
  | int i => cases e1; exact ⟨i, rfl, go _ rfl c1 _ l1 s1 (.int _)⟩
  | _ => cases e1
theorem re_ix (ha : RE X W a ma) (hb : RE X W b mb) (hs : PlainIx b := by exact fun _ _ => rfl) : RE X W (.Subscript a b pos) (mBin dIx ma mb) := pe_imp (pe_ix ix_seq ha hb hs) fun _ _ _ h => top_of ops_ix h
/-! ### built-ins -/
variable {e : Expr} {p : Pos} {m : M (List D)}
theorem re_len (hm : X.mg "len" = none) (ha : RA X W [e] m) (hg : Gl X "len" := by rfl) (he : starEach [e] X.env = (false, eval e X.env) :: starEach [] X.env := by rfl) : RE X W (.Call (.Name "len" p) [e] [] pos) (mCall dLen m) := re_callB call_len cs_len hm ha (by decide +kernel) hg (by decide) (by decide) he rfl
theorem re_intc (hm : X.mg "int" = none) (ha : RA X W [e] m) (hg : Gl X "int" := by rfl) (he : starEach [e] X.env = (false, eval e X.env) :: starEach [] X.env := by rfl) : RE X W (.Call (.Name "int" p) [e] [] pos) (mCall dInt m) := re_callTy (call_int1.or call_int_str) cs_int hm ha (by decide +kernel) hg (by decide) (by decide) he rfl
theorem re_strc (hm : X.mg "str" = none) (ha : RA X W [e] m) (hg : Gl X "str" := by rfl) (he : starEach [e] X.env = (false, eval e X.env) :: starEach [] X.env := by rfl) : RE X W (.Call (.Name "str" p) [e] [] pos) (mCall dStr m) := re_callTy (call_str_int.or SkE.call_str_str) cs_str hm ha (by decide +kernel) hg (by decide) (by decide) he rfl
theorem re_listc (hm : X.mg "list" = none) (ha : RA X W [e] m) (hg : Gl X "list" := by rfl) (he : starEach [e] X.env = (false, eval e X.env) :: starEach [] X.env := by rfl) : RE X W (.Call (.Name "list" p) [e] [] pos) (mCall dList m) := re_callTy call_list_of cs_list hm ha (by decide +kernel) hg (by decide) (by decide) he rfl
theorem re_tuplec (hm : X.mg "tuple" = none) (ha : RA X W [e] m) (hg : Gl X "tuple" := by rfl) (he : starEach [e] X.env = (false, eval e X.env) :: starEach [] X.env := by rfl) : RE X W (.Call (.Name "tuple" p) [e] [] pos) (mCall dTuple m) := re_callTy call_tuple_of cs_tuple hm ha (by decide +kernel) hg (by decide) (by decide) he rfl
theorem re_all (hc : X.calm = true) (hm : X.mg "all" = none) (ha : RA X W [e] m) (hg : Gl X "all" := by rfl) (he : starEach [e] X.env = (false, eval e X.env) :: starEach [] X.env := by rfl) : RE X W (.Call (.Name "all" p) [e] [] pos) (mCall dAll m) := re_callB (cr_all hc) cs_all hm ha (by decide +kernel) hg (by decide) (by decide) he rfl
theorem re_any (hc : X.calm = true) (hm : X.mg "any" = none) (ha : RA X W [e] m) (hg : Gl X "any" := by rfl) (he : starEach [e] X.env = (false, eval e X.env) :: starEach [] X.env := by rfl) : RE X W (.Call (.Name "any" p) [e] [] pos) (mCall dAny m) := re_callB (cr_any hc) cs_any hm ha (by decide +kernel) hg (by decide) (by decide) he rfl
theorem re_join {o : Expr} {mo : M D} {apos : Pos} (ho : RE X W o mo) (ha : RA X W [e] m) (hbase : attributeBase o "join" X.env (eval o X.env) = eval o X.env := by rfl)
    (hfew : ((backTo pos (starEach [e] X.env)).all (fun x => !x.1) && (backToKw pos (keywordEach [] X.env)).all (fun x => x.1.isSome)
      && decide (([e] : List Expr).length + ([] : List Keyword).length + (if ([] : List Keyword).isEmpty then 0 else 1) < 30)) = true := by rfl)
    (hline : (apos.endLine == pos.line) = true := by rfl) (hss : starEach [e] X.env = (false, eval e X.env) :: starEach [] X.env := by rfl) : RE X W (.Call (.Attribute o "join" apos) [e] [] pos) (mMtS dJoin mo m) :=
  re_mts PySem.F.slot_str_join PySem.F.type_str_join mt_join ms_join ho ha hbase hfew hline hss rfl
/-! ### y = [..] on one line, y a local -/
theorem rs_setLc (i : Nat) {y : Str} {py : Pos} {elt tg iter : Expr} {ifs : List Expr} {scope : Scope} {own : List (Str × Nat)} {pos spos : Pos} {mi : M (List D)} {g : MG} {S : List Nat} {t : M Bool} {e : M D} (hc : X.calm = true) (hN : X.N.Nodup)
    (hi : RI X W tg iter mi) (ok : BlkOk X.N X.env.scope scope own)
    (hg : ∀ (s : Shared) (H : Hp) (C : Addr) (cl : List (Str × Addr)) (fp : List Addr), RG (X.blk s H scope (compEnvC scope cl C X.env) fp) tg S g) (ht : ∀ (s : Shared) (H : Hp) (C : Addr) (cl : List (Str × Addr)) (fp : List Addr), RTs (X.blk s H scope (compEnvC scope cl C X.env) fp) W0 ifs t)
    (he : ∀ (s : Shared) (H : Hp) (C : Addr) (cl : List (Str × Addr)) (fp : List Addr), RE (X.blk s H scope (compEnvC scope cl C X.env) fp) W0 elt e) (hS : ∀ i ∈ S, i ∈ own.map (·.2) := by decide) (hy : X.N[i]? = some y := by rfl) (hyl : X.env.scope.names.lookup y = some .local := by rfl)
    (hsw : swapsWith (.ListComp elt [⟨tg, iter, ifs, 0⟩] scope pos) (some (.Name y py)) spos.line X.env = pure true := by exact sw_true rfl rfl rfl (by decide +kernel)) (hs : ∀ x, foldedSetIterable iter X.env x = pure x := by intro _; rfl) :
    RSt X W (.Assign [.Name y py] (.ListComp elt [⟨tg, iter, ifs, 0⟩] scope pos) spos) (msAsg (mLc (own.map (·.2)) mi g t e) (mgName i)) := by
  refine ps_imp (ps_setLc (g := tG X.K X.mg S g) (tt := tT X.K X.mg W0 t) (te := tE X.K X.mg W0 e) hc hN hy hyl hsw hi ok hg ht he hs) fun D σ H h => ?_
  obtain ⟨c, ε, h, r, h', hK, hm, rfl, sr, er, e, fin⟩ := h
  unfold tAsg
  refine lc_of hS ?_
  refine tX.stm hK hm sr er e fin fun d h1 c1 v e1 l1 s1 r1 => ?_
  cases e1
  exact fin c1 _ l1 s1 ((er.le l1).set r1 i)
end
section
variable {P : Program} {w : World} {K : PySem.W.Frag} {mg : Str → Option Value} {base : Heap} {N : List Str} {qual : Str} {scope : Scope} {f : Addr} {cdv : Value} {A : Around} {outer : List Env} {s : Shared} {H : Hp} {E : XK}
theorem tkOf : Takes (cxOf (L2.CX P w) P w K mg base N qual scope f cdv A outer s H E) (fun cls d _ H' => E cls d H') := takes_of rfl rfl rfl rfl
theorem poOf : PassesOwn (model P w) (A.deeper (envOfC qual scope s.heap.objs.size f cdv)) (envOfC qual scope s.heap.objs.size f cdv) (cxOf (L2.CX P w) P w K mg base N qual scope f cdv A outer s H E).xe := PassesOwn.leaving
end
end PD

namespace PD
open PySem PySem.Spec PyProof.Rows L2

/-! ### the module's data, looked at in the written part -/
mutual
def dB (K : PySem.W.Frag) : D → Value → Bool
  | .non, .none => true
  | .bl b, .bool c => b == c
  | .int i, .int j _ => decide (i = j)
  | .str cs, .str y _ => decide (y.cps.toList = cs)
  | .tup ds, .ref a => (match K.lookup a with
    | some ⟨.type c, _, .seq its _, _⟩ => decide (c = "tuple") && (decide (its.size ≤ sizeLine) && dBs K ds its.toList)
    | _ => false)
  | .scr ds, .ref a => (match K.lookup a with
    | some ⟨.type c, none, .seq its _, _⟩ => decide (c = "list") && (decide (its.size ≤ sizeLine) && dBs K ds its.toList)
    | _ => false)
  | _, _ => false
def dBs (K : PySem.W.Frag) : List D → List Value → Bool
  | [], [] => true
  | d :: ds, u :: us => dB K d u && dBs K ds us
  | _, _ => false
end
theorem ba2 {a b : Bool} (h : (a && b) = true) : a = true ∧ b = true := by simpa using h
mutual
theorem dB_ok {K : PySem.W.Frag} : ∀ {d : D} {u : Value}, dB K d u = true → ∃ v, RelV v u ∧ ∀ c : RC, c.K = K → Rep c d v
  | .non, u, h => by
    cases u <;> first | (rw [dB] at h <;> first | cases h | (intros; simp at *)) | skip
    exact ⟨.non, rfl, fun c _ => .non⟩
  | .bl b, u, h => by
    cases u with
    | bool c =>
      rw [dB] at h
      have e : b = c := by simpa using h
      subst e
      exact ⟨.bl b, rfl, fun c _ => .bl b⟩
    | _ => simp [dB] at h
  | .int i, u, h => by
    cases u with
    | int j t =>
      rw [dB] at h
      have e : i = j := of_decide_eq_true h
      subst e
      exact ⟨.int i, ⟨t, rfl⟩, fun c _ => .int i⟩
    | _ => simp [dB] at h
  | .str cs, u, h => by
    cases u with
    | str y t =>
      rw [dB] at h
      have e : y.cps.toList = cs := of_decide_eq_true h
      subst e
      exact ⟨.str y, ⟨t, rfl⟩, fun c _ => .str _⟩
    | _ => simp [dB] at h
  | .tup ds, u, h => by
    cases u with
    | ref a =>
      rw [dB] at h
      cases q : K.lookup a with
      | none => rw [q] at h; cases h
      | some o =>
        obtain ⟨oc, od, dt, osl⟩ := o
        rw [q] at h
        cases oc with
        | type c =>
          cases dt with
          | seq its n =>
            obtain ⟨h1, h2⟩ := ba2 (show (decide (c = "tuple") && (decide (its.size ≤ sizeLine) && dBs K ds its.toList)) = true from h)
            obtain ⟨h3, h4⟩ := ba2 h2
            obtain ⟨vs, r, rp⟩ := dBs_ok h4
            refine ⟨.ref a, rfl, fun c0 hK => .tup (.inr ⟨_, its, n, by rw [hK]; exact q, congrArg Value.type (of_decide_eq_true h1), rfl, of_decide_eq_true h3, r⟩) (rp c0 hK)⟩
          | _ => cases h
        | _ => cases dt <;> cases h
    | _ => simp [dB] at h
  | .scr ds, u, h => by
    cases u with
    | ref a =>
      rw [dB] at h
      cases q : K.lookup a with
      | none => rw [q] at h; cases h
      | some o =>
        obtain ⟨oc, od, dt, osl⟩ := o
        rw [q] at h
        cases oc with
        | type c =>
          cases od with
          | none =>
            cases dt with
            | seq its n =>
              obtain ⟨h1, h2⟩ := ba2 (show (decide (c = "list") && (decide (its.size ≤ sizeLine) && dBs K ds its.toList)) = true from h)
              obtain ⟨h3, h4⟩ := ba2 h2
              obtain ⟨vs, r, rp⟩ := dBs_ok h4
              refine ⟨.ref a, rfl, fun c0 hK => .scr (.inr ⟨_, its, n, by rw [hK]; exact q, congrArg Value.type (of_decide_eq_true h1), rfl, rfl, of_decide_eq_true h3, r⟩) (rp c0 hK)⟩
            | _ => cases h
          | some x => cases dt <;> cases h
        | _ => cases od <;> cases dt <;> cases h
    | _ => simp [dB] at h
  | .lst _, u, h => by simp [dB] at h
  | .dic _ _, u, h => by simp [dB] at h
  | .obj _ _, u, h => by simp [dB] at h
  | .ref _, u, h => by simp [dB] at h
theorem dBs_ok {K : PySem.W.Frag} : ∀ {ds : List D} {us : List Value}, dBs K ds us = true → ∃ vs, Vals vs us ∧ ∀ c : RC, c.K = K → Reps c ds vs
  | [], us, h => by
    cases us with
    | nil => exact ⟨[], .nil, fun _ _ => .nil⟩
    | cons _ _ => simp [dBs] at h
  | d :: ds, us, h => by
    cases us with
    | nil => simp [dBs] at h
    | cons u us =>
      rw [dBs] at h
      obtain ⟨h1, h2⟩ := ba2 h
      obtain ⟨v, r, rp⟩ := dB_ok h1
      obtain ⟨vs, rs, rps⟩ := dBs_ok h2
      exact ⟨v :: vs, .cons r rs, fun c hK => .cons (rp c hK) (rps c hK)⟩
end
def gloB (K : PySem.W.Frag) (x : Str) (d : D) : Bool := match PySem.W.nsIn K mainGlobals x with
  | some (some u) => dB K d u
  | _ => false
theorem globC_of {K : PySem.W.Frag} {h : Heap} {mg : Str → Option Value} (X : K.In h) (G : h.Ns mainGlobals mg) {x : Str} {d : D} (c : gloB K x d = true) : GlobC K mg x d := by
  unfold gloB at c
  cases q : PySem.W.nsIn K mainGlobals x with
  | none => rw [q] at c; cases c
  | some u =>
    cases u with
    | none => rw [q] at c; cases c
    | some u =>
      rw [q] at c
      obtain ⟨v, r, rp⟩ := dB_ok c
      exact ⟨u, v, PySem.W.mg_of X G q, r, fun c hK _ => rp c hK⟩

/-! ### the Hook: facts, defs, data -/
abbrev AlG : Type := He.AlD × Bool
def obsG (fa : List He.Fa) (fn : List He.DefD) (gs : List (Str × D)) (K : PySem.W.Frag) : AlG := (He.obsD fa fn K, gs.all fun p => gloB K p.1 p.2)
def valG (fn : List He.DefD) : AlG := (He.valD fn, true)
def SaysG (fa : List He.Fa) (fn : List He.DefD) (gs : List (Str × D)) (K : PySem.W.Frag) : Prop := obsG fa fn gs K = valG fn
def obsGG (n : Nat) (fa : List He.Fa) (fn : List He.DefD) (gs : List (Str × D)) (g : Addr → Option Obj) : AlG := obsG fa fn gs (He.frG g (He.asD g n))
def hookG (n : Nat) (fa : List He.Fa) (fn : List He.DefD) (gs : List (Str × D)) : PySem.W.Hook where
  α := AlG
  obs := fun s => obsGG n fa fn gs s.heap.get?
  val := fun _ => valG fn
  says := fun _ h => ∃ K : PySem.W.Frag, K.In h ∧ SaysG fa fn gs K
  of := fun _ _ e => ⟨_, He.frG_in, e⟩
  keeps := fun _ _ _ ⟨K, hK, c⟩ k => ⟨K, PySem.W.Frag.In.keeps hK k, c⟩
theorem obsGG_eq {n : Nat} {fa : List He.Fa} {fn : List He.DefD} {gs : List (Str × D)} {g : Addr → Option Obj} {s : Shared} (h : ∀ a, g a = s.heap.get? a) : obsGG n fa fn gs g = (hookG n fa fn gs).obs s := by
  have e : g = s.heap.get? := funext h
  rw [e] <;> rfl
theorem SaysG.d {fa : List He.Fa} {fn : List He.DefD} {gs : List (Str × D)} {K : PySem.W.Frag} (c : SaysG fa fn gs K) : He.SaysD fa fn K := congrArg (fun z : AlG => z.1) c
theorem SaysG.glob {fa : List He.Fa} {fn : List He.DefD} {gs : List (Str × D)} {K : PySem.W.Frag} (c : SaysG fa fn gs K) {p : Str × D} (hp : p ∈ gs) : gloB K p.1 p.2 = true :=
  List.all_eq_true.mp (congrArg (fun z : AlG => z.2) c : (gs.all fun p => gloB K p.1 p.2) = true) p hp
theorem SaysD.facts' {fa : List He.Fa} {fn : List He.DefD} {K : PySem.W.Frag} (c : He.SaysD fa fn K) {f : He.Fa} (h : f ∈ fa) : f.ok K = true := by
  obtain ⟨i, hi, e⟩ := List.mem_iff_getElem.mp h
  exact c.fact i (f := f) (by rw [List.getElem?_eq_getElem hi, e])
theorem SaysD.def' {fa : List He.Fa} {fn : List He.DefD} {K : PySem.W.Frag} (c : He.SaysD fa fn K) {d : He.DefD} (h : d ∈ fn) : ∃ fd, FunD K d.name d.qual d.params d.body d.scope (d.dvs K) (d.kws K) (He.fAd K d.at_) fd := by
  obtain ⟨i, hi, e⟩ := List.mem_iff_getElem.mp h
  exact c.def_ i (d := d) (by rw [List.getElem?_eq_getElem hi, e])

/-! ### a def that nothing is known of -/
section
variable {P : Program} {w : World} {K : PySem.W.Frag} {mg : Str → Option Value} {base : Heap}
theorem fnOk0 {k n : Nat} {f : Addr} {fd : FuncData} {ps : List Str} : FnOk P w K mg base (L2.CX P w) k f fd ps (SpP K mg n fun _ => none) :=
  ⟨fun vs H Q E h => (by obtain ⟨_, _, _, _, _, _, _, _, _, _, e, _⟩ := h; cases e), fun A outer s H args us vs Q E _ _ _ _ h => (by obtain ⟨_, _, _, _, _, _, _, _, _, _, e, _⟩ := h; cases e)⟩
theorem FunD.kbnP {x qual : Str} {params : Arguments} {body : List Stmt} {scope : Scope} {f : Addr} {fd : FuncData} {ps ks : List Str} {p : List Nat} (F : FunD K x qual params body scope [] [] f fd)
    (h : ∀ (kV doc pm : Value) (an : Option Addr) (cdv ct : Value) (ws : List Value), ws.length = ks.length → bindArgs (PySem.W.fnOf x qual params body scope .none kV doc pm an cdv ct) ⟨[], ks.zip ws⟩ = pure (ps.zip (permL p ws))) :
    KBn K fd ps 0 ks (fun _ ws => permL p ws) (fun _ zs => permL p zs) := by
  obtain ⟨oc, od, dV, kV, doc, pm, an, cdv, ct, osl, rfl, lk, hcd, hD, hK⟩ := F.ex
  rcases hD with ⟨_, rfl⟩ | ⟨e, _⟩
  · refine ⟨fun s us ws _ hu hw => ?_, fun _ r => permL_vals r⟩
    cases us with
    | nil => exact .of_eq (h kV doc pm an cdv ct ws hw)
    | cons _ _ => cases hu
  · exact absurd rfl e
theorem FnP.mono {x : Str} {j k n : Nat} {F : PF} (h : FnP P w K mg base x j n F) (l : j ≤ k) : FnP P w K mg base x k n F := by
  obtain ⟨f, fd, ps, a, b, c, d, e⟩ := h.ex
  exact ⟨⟨f, fd, ps, a, b, c, d, e.mono l⟩⟩
end
end PD

namespace PD
open PySem PySem.Spec PyProof.Rows L2

theorem scr_of {K : PySem.W.Frag} {H : Hp} {a : Addr} {ns : List Int} (hO : Only H) (hS : SqL K H a (ns.map V.int)) : ScrL K H a (ns.map V.int) := by
  rcases hS with (h | ⟨o, h⟩) | h
  · rcases hO a with e | ⟨o, xs, e⟩
    · rw [h] at e; cases e
    · rw [h] at e; cases e
  · exact .inl ⟨o, h⟩
  · exact .inr h
theorem reps_ints {c : RC} : ∀ ns : List Int, Reps c (ns.map D.int) (ns.map V.int)
  | [] => .nil
  | n :: ns => .cons (.int n) (reps_ints ns)
theorem walk_pd {l : PySem.W.OpenLaw} {n k : Nat} {q : Program} {loose : List Str} {XP : (Str → Option Value) → Heap → Prop} {YP : World → Heap → Prop} {d : DefRec} {x : Str} {Fl : IF}
    (hn : l.most = some n) (hn2 : n ≤ sizeLine) (hdf : d.params.defaults = []) (hr : Room k callerA)
    (F : ∀ (w : World) (mg : Str → Option Value) (fa : Addr) (h : Heap), YP w h → h.Ns mainGlobals mg → mg d.name = some (.ref fa) →
      ∃ (K : PySem.W.Frag) (fd : FuncData), K.In h ∧ (∀ (s : Shared) (u : Value), BindsTo s fd ⟨[u], []⟩ [(x, u)]) ∧ ∀ base : Heap, FnOk l.prog w K mg base (L2.CX l.prog w) k fa fd [x] (SpI K mg 1 Fl))
    (math : ∀ ns : List Int, ns.length ≤ n → (∀ z ∈ ns, Builtin.Int.intBits z ≤ 1048576) → ∃ h', Fl [.scr (ns.map .int)] [] = some (.ok (.bl true), h')) :
    PySem.W.WalkO q loose XP YP l.row.toRowW d [] (fun f vs => PySem.call f vs) := by
  refine Att.attach_callB hn hdf fun w s₀ s₁ mg mb fa o pm cd doc a vs ns G Y ho hd hcd hmg hobj hints hlen hbits hg => ?_
  obtain ⟨K, fd, KX, hb, hF⟩ := F w mg fa _ Y G.T.g hmg
  refine law_call KX G.T.g G.T.b G.T.builtins G.T.nolimit hg hobj hints (Nat.le_trans hlen hn2) hr (fun base _ _ => hF base) hb (fun H hO hS => ?_) fun H e s' hz => ?_
  · obtain ⟨h', e⟩ := math ns hlen hbits
    refine ⟨⟨K, mg, fun _ => False, [], H⟩, [], [.scr (ns.map .int)], .ok (.bl true), h', rfl, rfl, rfl, SR.nil rfl (fun _ z => z.elim), .cons (.scr (scr_of hO hS) (reps_ints ns)) .nil, rfl, e, fun d ed c' v l s r => ?_, fun e ee => nomatch ee⟩
    cases ed
    cases r
    rfl
  · obtain ⟨_, _, _, _, _, _, _, _, _, _, _, _, z⟩ := hz
    exact z
end PD

namespace PD
open PySem PySem.Spec PyProof.Rows L2

/-! ### is, is not: None, bools -/
def dIsA (neg : Bool) (h : EH) (x y : D) : Option D := match x, y with
  | .bl a, .bl b => some (.bl (neg != decide (a = b)))
  | _, _ => dIsN neg h x y
section
variable {K : PySem.W.Frag} {mg : Str → Option Value}
theorem ops_isA : OpS K mg (fun x y H Q => (y = .non ∧ Q (.bl (decide (x = .non))) H) ∨ (∃ a b, x = .bl a ∧ y = .bl b ∧ Q (.bl (decide (a = b))) H)) (dIsA false) := by
  intro c eh x y dx dy d Q hK hm sr rx ry e go
  cases rx with
  | bl a =>
    cases ry with
    | bl b => cases e; exact .inr ⟨a, b, rfl, rfl, by rw [← Bool.false_bne (decide (a = b))]; exact go c _ (.refl c) sr (.bl _)⟩
    | non => exact .inl (ops_isN c eh _ _ _ _ d Q hK hm sr (.bl a) .non e go)
    | _ => cases e
  | non => exact .inl (ops_isN c eh _ _ _ _ d Q hK hm sr .non ry e go)
  | int i => exact .inl (ops_isN c eh _ _ _ _ d Q hK hm sr (.int i) ry e go)
  | str i => exact .inl (ops_isN c eh _ _ _ _ d Q hK hm sr (.str i) ry e go)
  | tup a b => exact .inl (ops_isN c eh _ _ _ _ d Q hK hm sr (.tup a b) ry e go)
  | lst a b f => exact .inl (ops_isN c eh _ _ _ _ d Q hK hm sr (.lst a b f) ry e go)
  | scr a b => exact .inl (ops_isN c eh _ _ _ _ d Q hK hm sr (.scr a b) ry e go)
  | obj a b f g => exact .inl (ops_isN c eh _ _ _ _ d Q hK hm sr (.obj a b f g) ry e go)
  | dic a b f g => exact .inl (ops_isN c eh _ _ _ _ d Q hK hm sr (.dic a b f g) ry e go)
  | ref a => exact .inl (ops_isN c eh _ _ _ _ d Q hK hm sr (.ref a) ry e go)
theorem ops_isnA : OpS K mg (fun x y H Q => (y = .non ∧ Q (.bl (!decide (x = .non))) H) ∨ (∃ a b, x = .bl a ∧ y = .bl b ∧ Q (.bl (!decide (a = b))) H)) (dIsA true) := by
  intro c eh x y dx dy d Q hK hm sr rx ry e go
  cases rx with
  | bl a =>
    cases ry with
    | bl b => cases e; exact .inr ⟨a, b, rfl, rfl, by rw [← Bool.true_bne (decide (a = b))]; exact go c _ (.refl c) sr (.bl _)⟩
    | non => exact .inl (ops_isnN c eh _ _ _ _ d Q hK hm sr (.bl a) .non e go)
    | _ => cases e
  | non => exact .inl (ops_isnN c eh _ _ _ _ d Q hK hm sr .non ry e go)
  | int i => exact .inl (ops_isnN c eh _ _ _ _ d Q hK hm sr (.int i) ry e go)
  | str i => exact .inl (ops_isnN c eh _ _ _ _ d Q hK hm sr (.str i) ry e go)
  | tup a b => exact .inl (ops_isnN c eh _ _ _ _ d Q hK hm sr (.tup a b) ry e go)
  | lst a b f => exact .inl (ops_isnN c eh _ _ _ _ d Q hK hm sr (.lst a b f) ry e go)
  | scr a b => exact .inl (ops_isnN c eh _ _ _ _ d Q hK hm sr (.scr a b) ry e go)
  | obj a b f g => exact .inl (ops_isnN c eh _ _ _ _ d Q hK hm sr (.obj a b f g) ry e go)
  | dic a b f g => exact .inl (ops_isnN c eh _ _ _ _ d Q hK hm sr (.dic a b f g) ry e go)
  | ref a => exact .inl (ops_isnN c eh _ _ _ _ d Q hK hm sr (.ref a) ry e go)
end
section
variable {X : Cx} {W : WX} {a b : Expr} {ma mb : M D} {pos : Pos}
theorem re_isA (ha : RE X W a ma) (hb : RE X W b mb) : RE X W (.Compare a [.Is] [b] pos) (mBin (dIsA false) ma mb) := re_cmp (op_isN.or op_is_bl) ops_isA ha hb (nomark _)
theorem re_isnA (ha : RE X W a ma) (hb : RE X W b mb) : RE X W (.Compare a [.IsNot] [b] pos) (mBin (dIsA true) ma mb) := re_cmp (op_notN.or op_isnot_bl) ops_isnA ha hb (nomark _)
theorem rt_isA (ha : RE X W a ma) (hb : RE X W b mb) : RT X W (.Compare a [.Is] [b] pos) (mTst (mBin (dIsA false) ma mb)) := rt_cmp (op_isN.or op_is_bl) ops_isA ha hb (nomark _)
theorem rt_isnA (ha : RE X W a ma) (hb : RE X W b mb) : RT X W (.Compare a [.IsNot] [b] pos) (mTst (mBin (dIsA true) ma mb)) := rt_cmp (op_notN.or op_isnot_bl) ops_isnA ha hb (nomark _)
end

/-! ### methods of texts -/
def stL (s : Str) : List Nat := s.cps.toList
theorem stL_eq (s : Str) : (⟨(stL s).toArray⟩ : Str) = s := rfl
def toS (z : List Nat) : Str := ⟨z.toArray⟩
def partD (z s : List Nat) : List Nat × List Nat × List Nat := (stL (Txt.partition (toS z) (toS s)).1, stL (Txt.partition (toS z) (toS s)).2.1, stL (Txt.partition (toS z) (toS s)).2.2)
def splitD (z s : List Nat) : List (List Nat) := (Txt.split (toS z) (toS s)).map stL
def s1 (f : List Nat → Option D) (ds : List D) : Option D := match ds with
  | [.str s] => f s
  | _ => none
def dPart (_ : EH) (z : List Nat) (ds : List D) : Option D := s1 (fun s => if s ≠ [] ∧ z.length ≤ 16777216 then some (.tup [.str (partD z s).1, .str (partD z s).2.1, .str (partD z s).2.2]) else none) ds
def dSplit (_ : EH) (z : List Nat) (ds : List D) : Option D := s1 (fun s => if s ≠ [] ∧ z.length ≤ 16777214 then some (.lst ((splitD z s).map .str)) else none) ds
def dRmp (_ : EH) (z : List Nat) (ds : List D) : Option D := s1 (fun s => if z.length ≤ 16777216 then some (.str (stL (Txt.removeprefix (toS z) (toS s)))) else none) ds
def dFind (_ : EH) (z : List Nat) (ds : List D) : Option D := s1 (fun s => some (.int (Txt.find (toS z) (toS s)))) ds
def dStw (_ : EH) (z : List Nat) (ds : List D) : Option D := s1 (fun s => some (.bl (Txt.startswith (toS z) (toS s)))) ds
def dEnw (_ : EH) (z : List Nat) (ds : List D) : Option D := s1 (fun s => some (.bl (Txt.endswith (toS z) (toS s)))) ds
theorem str1 {c : RC} {ds : List D} {xs : List V} {f : List Nat → Option D} {d : D} (rx : Reps c ds xs) (e : s1 f ds = some d) : ∃ s, ds = [.str s] ∧ xs = [.str (toS s)] ∧ f s = some d := by
  match ds, rx, e with
  | [d0], .cons r0 .nil, e =>
    cases r0 with
    | str s => exact ⟨s, rfl, rfl, e⟩
    | _ => cases e
  | [], _, e => cases e
  | a :: b :: r, _, e =>
    have : s1 f (a :: b :: r) = none := by cases a <;> rfl
    rw [this] at e
    cases e
theorem ne_len {s : List Nat} (h : s ≠ []) : ((toS s).length == 0) = false := by
  cases s with
  | nil => exact absurd rfl h
  | cons _ _ => rfl
theorem len_toS (z : List Nat) : (toS z).length = z.length := by simp [toS, Str.length]
theorem reps_strs {c : RC} : ∀ ys : List Str, Reps c ((ys.map stL).map D.str) (ys.map V.str)
  | [] => .nil
  | y :: ys => .cons (Rep.str (stL y)) (reps_strs ys)
section
variable {K : PySem.W.Frag} {mg : Str → Option Value}
theorem ms_part : MtS K mg (fun x xs H Q => ∃ a b, x = .str a ∧ xs = [.str b] ∧ (b.length == 0) = false ∧ a.length ≤ sizeLine ∧ ∀ p, H p = none → Q (.ref p) (upd H p (.tup [.str (Txt.partition a b).1, .str (Txt.partition a b).2.1, .str (Txt.partition a b).2.2]))) dPart := by
  intro c eh z xs ds d Q hK hm sr rx e go
  obtain ⟨s, rfl, rfl, e⟩ := str1 (f := fun s => if s ≠ [] ∧ z.length ≤ 16777216 then some (.tup [.str (partD z s).1, .str (partD z s).2.1, .str (partD z s).2.2]) else none) rx e
  by_cases hc : s ≠ [] ∧ z.length ≤ 16777216
  · rw [if_pos hc] at e
    cases e
    exact ⟨_, _, rfl, rfl, ne_len hc.1, by show (toS z).length ≤ 16777216; rw [len_toS]; exact hc.2, put_tup sr go (.cons (.str _) (.cons (.str _) (.cons (.str _) .nil)))⟩
  · rw [if_neg hc] at e; cases e
theorem ms_split : MtS K mg (fun x xs H Q => ∃ a b, x = .str a ∧ xs = [.str b] ∧ (b.length == 0) = false ∧ a.length + 2 ≤ sizeLine ∧ rNewStrs (Txt.split a b) H Q) dSplit := by
  intro c eh z xs ds d Q hK hm sr rx e go
  obtain ⟨s, rfl, rfl, e⟩ := str1 (f := fun s => if s ≠ [] ∧ z.length ≤ 16777214 then some (.lst ((splitD z s).map .str)) else none) rx e
  by_cases hc : s ≠ [] ∧ z.length ≤ 16777214
  · rw [if_pos hc] at e
    cases e
    refine ⟨_, _, rfl, rfl, ne_len hc.1, ?_, put_lst sr go (reps_strs _)⟩
    show (toS z).length + 2 ≤ 16777216
    rw [len_toS]
    have := hc.2
    omega
  · rw [if_neg hc] at e; cases e
theorem ms_rmp : MtS K mg (fun x xs H Q => ∃ a b, x = .str a ∧ xs = [.str b] ∧ a.length ≤ sizeLine ∧ Q (.str (Txt.removeprefix a b)) H) dRmp := by
  intro c eh z xs ds d Q hK hm sr rx e go
  obtain ⟨s, rfl, rfl, e⟩ := str1 (f := fun s => if z.length ≤ 16777216 then some (.str (stL (Txt.removeprefix (toS z) (toS s)))) else none) rx e
  by_cases hc : z.length ≤ 16777216
  · rw [if_pos hc] at e
    cases e
    exact ⟨_, _, rfl, rfl, by show (toS z).length ≤ 16777216; rw [len_toS]; exact hc, go c _ (.refl c) sr (.str (stL _))⟩
  · rw [if_neg hc] at e; cases e
theorem ms_find : MtS K mg (fun x xs H Q => ∃ a b, x = .str a ∧ xs = [.str b] ∧ Q (.int (Txt.find a b)) H) dFind := by
  intro c eh z xs ds d Q hK hm sr rx e go
  obtain ⟨s, rfl, rfl, e⟩ := str1 (f := fun s => some (.int (Txt.find (toS z) (toS s)))) rx e
  cases e
  exact ⟨_, _, rfl, rfl, go c _ (.refl c) sr (.int _)⟩
theorem ms_stw : MtS K mg (fun x xs H Q => ∃ a b, x = .str a ∧ xs = [.str b] ∧ Q (.bl (Txt.startswith a b)) H) dStw := by
  intro c eh z xs ds d Q hK hm sr rx e go
  obtain ⟨s, rfl, rfl, e⟩ := str1 (f := fun s => some (.bl (Txt.startswith (toS z) (toS s)))) rx e
  cases e
  exact ⟨_, _, rfl, rfl, go c _ (.refl c) sr (.bl _)⟩
theorem ms_enw : MtS K mg (fun x xs H Q => ∃ a b, x = .str a ∧ xs = [.str b] ∧ Q (.bl (Txt.endswith a b)) H) dEnw := by
  intro c eh z xs ds d Q hK hm sr rx e go
  obtain ⟨s, rfl, rfl, e⟩ := str1 (f := fun s => some (.bl (Txt.endswith (toS z) (toS s)))) rx e
  cases e
  exact ⟨_, _, rfl, rfl, go c _ (.refl c) sr (.bl _)⟩
end
section
variable {X : Cx} {W : WX} {o e : Expr} {mo : M D} {m : M (List D)} {apos pos : Pos}
theorem re_part (ho : RE X W o mo) (ha : RA X W [e] m) (hbase : attributeBase o "partition" X.env (eval o X.env) = eval o X.env := by rfl)
    (hfew : ((backTo pos (starEach [e] X.env)).all (fun x => !x.1) && (backToKw pos (keywordEach [] X.env)).all (fun x => x.1.isSome)
      && decide (([e] : List Expr).length + ([] : List Keyword).length + (if ([] : List Keyword).isEmpty then 0 else 1) < 30)) = true := by rfl)
    (hline : (apos.endLine == pos.line) = true := by rfl) (hss : starEach [e] X.env = (false, eval e X.env) :: starEach [] X.env := by rfl) : RE X W (.Call (.Attribute o "partition" apos) [e] [] pos) (mMtS dPart mo m) :=
  re_mts PySem.F.slot_str_partition PySem.F.type_str_partition mt_partition ms_part ho ha hbase hfew hline hss rfl
theorem re_split (ho : RE X W o mo) (ha : RA X W [e] m) (hbase : attributeBase o "split" X.env (eval o X.env) = eval o X.env := by rfl)
    (hfew : ((backTo pos (starEach [e] X.env)).all (fun x => !x.1) && (backToKw pos (keywordEach [] X.env)).all (fun x => x.1.isSome)
      && decide (([e] : List Expr).length + ([] : List Keyword).length + (if ([] : List Keyword).isEmpty then 0 else 1) < 30)) = true := by rfl)
    (hline : (apos.endLine == pos.line) = true := by rfl) (hss : starEach [e] X.env = (false, eval e X.env) :: starEach [] X.env := by rfl) : RE X W (.Call (.Attribute o "split" apos) [e] [] pos) (mMtS dSplit mo m) :=
  re_mts PySem.F.slot_str_split PySem.F.type_str_split mt_split ms_split ho ha hbase hfew hline hss rfl
theorem re_rmp (ho : RE X W o mo) (ha : RA X W [e] m) (hbase : attributeBase o "removeprefix" X.env (eval o X.env) = eval o X.env := by rfl)
    (hfew : ((backTo pos (starEach [e] X.env)).all (fun x => !x.1) && (backToKw pos (keywordEach [] X.env)).all (fun x => x.1.isSome)
      && decide (([e] : List Expr).length + ([] : List Keyword).length + (if ([] : List Keyword).isEmpty then 0 else 1) < 30)) = true := by rfl)
    (hline : (apos.endLine == pos.line) = true := by rfl) (hss : starEach [e] X.env = (false, eval e X.env) :: starEach [] X.env := by rfl) : RE X W (.Call (.Attribute o "removeprefix" apos) [e] [] pos) (mMtS dRmp mo m) :=
  re_mts PySem.F.slot_str_removeprefix PySem.F.type_str_removeprefix mt_removeprefix ms_rmp ho ha hbase hfew hline hss rfl
theorem re_find (ho : RE X W o mo) (ha : RA X W [e] m) (hbase : attributeBase o "find" X.env (eval o X.env) = eval o X.env := by rfl)
    (hfew : ((backTo pos (starEach [e] X.env)).all (fun x => !x.1) && (backToKw pos (keywordEach [] X.env)).all (fun x => x.1.isSome)
      && decide (([e] : List Expr).length + ([] : List Keyword).length + (if ([] : List Keyword).isEmpty then 0 else 1) < 30)) = true := by rfl)
    (hline : (apos.endLine == pos.line) = true := by rfl) (hss : starEach [e] X.env = (false, eval e X.env) :: starEach [] X.env := by rfl) : RE X W (.Call (.Attribute o "find" apos) [e] [] pos) (mMtS dFind mo m) :=
  re_mts PySem.F.slot_str_find PySem.F.type_str_find mt_find ms_find ho ha hbase hfew hline hss rfl
theorem re_stw (ho : RE X W o mo) (ha : RA X W [e] m) (hbase : attributeBase o "startswith" X.env (eval o X.env) = eval o X.env := by rfl)
    (hfew : ((backTo pos (starEach [e] X.env)).all (fun x => !x.1) && (backToKw pos (keywordEach [] X.env)).all (fun x => x.1.isSome)
      && decide (([e] : List Expr).length + ([] : List Keyword).length + (if ([] : List Keyword).isEmpty then 0 else 1) < 30)) = true := by rfl)
    (hline : (apos.endLine == pos.line) = true := by rfl) (hss : starEach [e] X.env = (false, eval e X.env) :: starEach [] X.env := by rfl) : RE X W (.Call (.Attribute o "startswith" apos) [e] [] pos) (mMtS dStw mo m) :=
  re_mts PySem.F.slot_str_startswith PySem.F.type_str_startswith mt_startswith ms_stw ho ha hbase hfew hline hss rfl
theorem re_enw (ho : RE X W o mo) (ha : RA X W [e] m) (hbase : attributeBase o "endswith" X.env (eval o X.env) = eval o X.env := by rfl)
    (hfew : ((backTo pos (starEach [e] X.env)).all (fun x => !x.1) && (backToKw pos (keywordEach [] X.env)).all (fun x => x.1.isSome)
      && decide (([e] : List Expr).length + ([] : List Keyword).length + (if ([] : List Keyword).isEmpty then 0 else 1) < 30)) = true := by rfl)
    (hline : (apos.endLine == pos.line) = true := by rfl) (hss : starEach [e] X.env = (false, eval e X.env) :: starEach [] X.env := by rfl) : RE X W (.Call (.Attribute o "endswith" apos) [e] [] pos) (mMtS dEnw mo m) :=
  re_mts PySem.F.slot_str_endswith PySem.F.type_str_endswith mt_endswith ms_enw ho ha hbase hfew hline hss rfl

/-! ### f-strings -/
def fmt1 (d : D) : Option D := match d with
  | .str z => if z.length ≤ 16777216 then some (.str z) else none
  | .int i => if i.natAbs.log2 < 1920 then some (.str (decI i)) else none
  | _ => none
def mFmt (m : M D) : M D := fun ε h => bR (m ε h) fun d h1 => rt (fmt1 d) h1
theorem re_fmt {m : M D} (he : RE X W e m) : RE X W (.FormattedValue e (-1) none pos) (mFmt m) := by
  refine pe_imp (pe_fmt he) fun σ H Q h => ?_
  obtain ⟨c, ε, h, r', h', hK, hm, rfl, sr, er, e, px, go⟩ := h
  unfold tFmt
  refine tX.bind hK hm sr er e px fun d h1 c1 v e1 l1 s1 r1 => ?_
  cases r1 with
  | str z =>
    have e2 : rt (if z.length ≤ 16777216 then some (D.str z) else none) h1 = some (r', h') := e1
    by_cases hc : z.length ≤ 16777216
    · rw [if_pos hc] at e2
      cases e2
      exact .inl ⟨_, rfl, by show (toS z).length ≤ 16777216; rw [len_toS]; exact hc, go _ rfl c1 _ l1 s1 (.str z)⟩
    · rw [if_neg hc] at e2; cases e2
  | int i =>
    have e2 : rt (if i.natAbs.log2 < 1920 then some (D.str (decI i)) else none) h1 = some (r', h') := e1
    by_cases hc : i.natAbs.log2 < 1920
    · rw [if_pos hc] at e2
      cases e2
      refine .inr ⟨i, rfl, hc, go _ rfl c1 _ l1 s1 ?_⟩
      have es : (Str.ofString (toString i)) = ⟨(decI i).toArray⟩ := by
        rw [Str.ofString_eq_toList]
        rfl
      rw [es]
      exact Rep.str (decI i)
    · rw [if_neg hc] at e2; cases e2
  | _ => cases e1
inductive RJ (X : Cx) (W : WX) : List Expr → List (M D) → Prop where
  | nil : RJ X W [] []
  | cons {e : Expr} {m : M D} {es : List Expr} {ms : List (M D)} (h : RE X W e m) (r : RJ X W es ms) : RJ X W (e :: es) (m :: ms)
theorem RJ.pj {es : List Expr} {ms : List (M D)} (h : RJ X W es ms) : PJ X es (ms.map (tE X.K X.mg W)) := by
  induction h with
  | nil => exact .nil
  | cons h r ih => exact .cons h ih
def jsL : List (M D) → List Nat → M D
  | [], acc => fun _ h => some (.ok (.str acc), h)
  | m :: ms, acc => fun ε h => bR (m ε h) fun d h1 => match d with
    | .str z => if (acc ++ z).length ≤ 16777216 then jsL ms (acc ++ z) ε h1 else none
    | _ => none
theorem js_of {K : PySem.W.Frag} {mg : Str → Option Value} {σ : L2.St} {Q : VK} : ∀ (ms : List (M D)) (acc : List Nat) (H : Hp), tE K mg W (jsL ms acc) σ H Q → tJs (ms.map (tE K mg W)) (toS acc) σ H fun out H1 => Q (.str out) H1
  | [], acc, H, h => by
    obtain ⟨c, ε, h, r', h', hK, hm, rfl, sr, er, e, px, go⟩ := h
    cases e
    exact go _ rfl c _ (.refl c) sr (.str acc)
  | m :: ms, acc, H, h => by
    obtain ⟨c, ε, h, r', h', hK, hm, rfl, sr, er, e, px, go⟩ := h
    rw [List.map_cons]
    unfold tJs
    refine tX.bind hK hm sr er e px fun d h1 c1 v e1 l1 s1 r1 => ?_
    cases r1 with
    | str z =>
      have e2 : (if (acc ++ z).length ≤ 16777216 then jsL ms (acc ++ z) ε h1 else none) = some (r', h') := e1
      by_cases hc : (acc ++ z).length ≤ 16777216
      · rw [if_pos hc] at e2
        have ea : toS acc ++ toS z = toS (acc ++ z) := by
          show (⟨acc.toArray ++ z.toArray⟩ : Str) = ⟨(acc ++ z).toArray⟩
          simp
        refine ⟨toS z, rfl, ?_, ?_⟩
        · rw [ea, len_toS]; exact hc
        · rw [ea]
          exact js_of ms (acc ++ z) c1.H ⟨c1, ε, h1, r', h', l1.K.trans hK, l1.mg.trans hm, rfl, s1, er.le l1, e2, px.le l1, fun a ea c' b l s rb => go a ea c' b (l1.trans l) s rb⟩
      · rw [if_neg hc] at e2; cases e2
    | _ => cases e1
theorem re_joined {v1 v2 : Expr} {rest : List Expr} {ms : List (M D)} (h : RJ X W (v1 :: v2 :: rest) ms) : RE X W (.JoinedStr (v1 :: v2 :: rest) pos) (jsL ms []) :=
  pe_imp (pe_joined h.pj) fun σ H Q q => js_of ms [] H q
theorem re_joined1 {m : M D} (h : RE X W e m) : RE X W (.JoinedStr [e] pos) m := pe_joined1 h
end

/-! ### defaults -/
structure FnPD (P : Program) (w : World) (K : PySem.W.Frag) (mg : Str → Option Value) (base : Heap) (x : Str) (k n : Nat) (dd : List D) (F : PF) : Prop where
  ex : ∃ (f : Addr) (fd : FuncData) (ps : List Str) (us : List Value) (dvs : List V), mg x = some (.ref f) ∧ PySem.W.keepIn K (.ref f) = true ∧ Binds K fd ps us ∧ Vals dvs us ∧ (∀ c : RC, c.K = K → c.mg = mg → Reps c dd dvs) ∧ ps.length = n + dd.length ∧ FnOk P w K mg base (L2.CX P w) k f fd ps (SpP K mg (n + dd.length) F)
section
variable {X : Cx} {W : WX}
theorem re_callPD {x : Str} {p pos : Pos} {e : Expr} {es : List Expr} {k j n : Nat} {dd : List D} {F : PF} {ma : M (List D)} (G : FnPD X.prog X.w X.K X.mg X.base x k n dd F) (hr : Room j X.A) (tk : Takes X W) (ha : RA X W (e :: es) ma) (hk : k ≤ j := by decide)
    (hn : ArN n ma := by repeat (first | exact ar_nil | refine ar_cons ?_)) (hg : Gl X x := by rfl)
    (hdb : (x == ("__debug__" : Str)) = false := by decide) (he : starEach (e :: es) X.env = (false, eval e X.env) :: starEach es X.env := by rfl) (hpl : (backTo pos (starEach es X.env)).any (·.1) = false := by rfl) :
    RE X W (.Call (.Name x p) (e :: es) [] pos) (mCallP (fun ds => F (ds ++ dd)) ma) := by
  obtain ⟨f, fd, ps, us, dvs, hm, hkp, hb, hv, hd, hl, Fo⟩ := G.ex
  refine pe_imp (pe_callSD Fo (hr.mono hk) hg hm hkp hb hv (fun σ => passAt tk σ) ha hdb he hpl) fun σ H Q h => ?_
  have h2 := callP_of hn h
  unfold tCallSD at h2 ⊢
  refine tx_imp h2 fun vs H1 q => ?_
  obtain ⟨c, ds, r, hK, hm', rfl, hρ, bt, rv, hl', e, go, gx⟩ := q
  rw [List.append_nil] at rv
  exact ⟨c, ds ++ dd, r, hK, hm', rfl, hρ, bt, rv.append (hd c hK hm'), by rw [List.length_append, hl'], e, go, gx⟩
end
end PD

namespace PD
open PySem PySem.Spec PyProof.Rows L2

/-! ## objects -/
def insD (h : EH) (d : D) : Option (Str × List (Str × D)) := match d with
  | .obj C fs => some (C, fs)
  | .ref n => (match h[n]? with
    | some (.obj C fs) => some (C, fs)
    | _ => none)
  | _ => none
theorem insD_ok {c : RC} {h : EH} {d : D} {v : V} {C : Str} {fs : List (Str × D)} (s : SR c h) (r : Rep c d v) (e : insD h d = some (C, fs)) :
    ∃ a Ca dx vs, v = .ref a ∧ c.mg C = some (.ref Ca) ∧ c.H a = some (.ins Ca dx vs) ∧ RepF c fs vs := by
  cases r with
  | obj m k1 k2 k3 => cases e; exact ⟨_, _, _, _, rfl, m, k1, k3⟩
  | @ref n a hn =>
    unfold insD at e
    dsimp only at e
    cases q : h[n]? with
    | none => rw [q] at e; cases e
    | some k =>
      rw [q] at e
      cases k with
      | obj C' fs' =>
        cases e
        obtain ⟨Ca, dx, vs, h1, h2, h3⟩ := s.cells n a _ hn q
        exact ⟨a, Ca, dx, vs, rfl, h1, h2, h3⟩
      | _ => cases e
  | _ => cases e
/-- what one has of a class whose fields fs are read or written -/
def ClsF (K : PySem.W.Frag) (mg : Str → Option Value) (C f : Str) : Prop := ∃ Ca, mg C = some (.ref Ca) ∧ Cls K Ca ∧ NoAttr K Ca f
def ClsFs (K : PySem.W.Frag) (mg : Str → Option Value) (Cs : List Str) (f : Str) : Prop := ∀ C ∈ Cs, ClsF K mg C f
theorem ClsFs.nil {K : PySem.W.Frag} {mg : Str → Option Value} {f : Str} : ClsFs K mg [] f := fun _ h => nomatch h
theorem ClsFs.cons {K : PySem.W.Frag} {mg : Str → Option Value} {C f : Str} {Cs : List Str} (h : ClsF K mg C f) (t : ClsFs K mg Cs f) : ClsFs K mg (C :: Cs) f := fun D hD => by
  rcases List.mem_cons.mp hD with e | e
  · rw [e]; exact h
  · exact t D e
theorem ClsFs.at {K : PySem.W.Frag} {mg : Str → Option Value} {C f : Str} {Cs : List Str} {Ca : Addr} (h : ClsFs K mg Cs f) (hC : C ∈ Cs) (hm : mg C = some (.ref Ca)) : Cls K Ca ∧ NoAttr K Ca f := by
  obtain ⟨Cb, h1, h2, h3⟩ := h C hC
  rw [hm] at h1
  cases h1
  exact ⟨h2, h3⟩
/-- o.f -/
def dFld (Cs : List Str) (f : Str) (h : EH) (d : D) : Option D := match insD h d with
  | some (C, fs) => if C ∈ Cs then fs.lookup f else none
  | none => none
def mFld (Cs : List Str) (f : Str) (a : M D) : M D := fun ε h => bR (a ε h) fun x h1 => rt (dFld Cs f h1 x) h1
section
variable {X : Cx} {W : WX}
theorem re_fld {Cs : List Str} {f : Str} {e : Expr} {m : M D} {pos : Pos} (hC : ClsFs X.K X.mg Cs f) (he : RE X W e m) (hb : attributeBase e f X.env (eval e X.env) = eval e X.env := by rfl) : RE X W (.Attribute e f pos) (mFld Cs f m) := by
  refine pe_imp (pe_fld he hb) fun σ H Q h => ?_
  obtain ⟨c, ε, h, r, h', hK, hm, rfl, sr, er, e, px, go⟩ := h
  unfold tFld
  refine tX.bind hK hm sr er e px fun d h1 c1 v e1 l1 s1 r1 => ?_
  unfold dFld at e1
  cases q : insD h1 d with
  | none => rw [q] at e1; cases e1
  | some z =>
    obtain ⟨C, fs⟩ := z
    rw [q] at e1
    dsimp only at e1
    by_cases hc : C ∈ Cs
    · rw [if_pos hc] at e1
      obtain ⟨a, Ca, dx, vs, rfl, k1, k2, k3⟩ := insD_ok s1 r1 q
      cases q2 : fs.lookup f with
      | none => rw [q2] at e1; cases e1
      | some d2 =>
        rw [q2] at e1
        cases e1
        obtain ⟨v2, h2, r2⟩ := k3.look q2
        obtain ⟨hc1, hc2⟩ := hC.at hc (by rw [← hm, ← l1.mg]; exact k1)
        exact ⟨a, Ca, dx, vs, v2, rfl, k2, hc1, hc2, h2, go _ rfl c1 v2 l1 s1 r2⟩
    · rw [if_neg hc] at e1; cases e1
/-! o.f = e -/
theorem putF_rep {c : RC} {f : Str} {d : D} {v : V} (r : Rep c d v) : ∀ {fs : List (Str × D)} {vs : List (Str × V)}, RepF c fs vs → RepF c (putD f d fs) (putF f v vs)
  | _, _, .nil => .cons r .nil
  | _, _, .cons (f := g) h t => by
    unfold putD putF
    by_cases e : g = f
    · rw [if_pos e, if_pos e]; exact .cons r t
    · rw [if_neg e, if_neg e]; exact .cons h (putF_rep r t)
def putO (Cs : List Str) (f : Str) (h : EH) (x y : D) : Option EH := match x with
  | .ref n => (match h[n]? with
    | some (.obj C fs) => if C ∈ Cs ∧ fs.length < 1000 then some (h.set n (.obj C (putD f y fs))) else none
    | _ => none)
  | _ => none
def msFld (Cs : List Str) (f : Str) (o v : M D) : MS := fun ε h => bS (v ε h) ε fun y h1 => bS (o ε h1) ε fun x h2 => (putO Cs f h2 x y).map fun h3 => (.nx ε, h3)
theorem putO_ok {c : RC} {h h' : EH} {Cs : List Str} {f : Str} {x y : D} {u v : V} (s : SR c h) (rx : Rep c x u) (ry : Rep c y v) (e : putO Cs f h x y = some h') (hC : ClsFs c.K c.mg Cs f) :
    ∃ a Ca dx vs, u = .ref a ∧ c.H a = some (.ins Ca dx vs) ∧ Cls c.K Ca ∧ NoAttr c.K Ca f ∧ vs.length < 1000 ∧ c.Le (c.put a (.ins Ca dx (putF f v vs))) ∧ SR (c.put a (.ins Ca dx (putF f v vs))) h' := by
  cases rx with
  | @ref n a hn =>
    unfold putO at e
    dsimp only at e
    cases q : h[n]? with
    | none => rw [q] at e; cases e
    | some k =>
      rw [q] at e
      cases k with
      | obj C fs =>
        dsimp only at e
        by_cases hc : C ∈ Cs ∧ fs.length < 1000
        · rw [if_pos hc] at e
          cases e
          obtain ⟨Ca, dx, vs, h1, h2, h3⟩ := s.cells n a _ hn q
          obtain ⟨hc1, hc2⟩ := hC.at hc.1 h1
          obtain ⟨l3, s3⟩ := s.write (o := .ins Ca dx (putF f v vs)) (k := .obj C (putD f y fs)) hn (fun ys z => by
            rcases z with z | ⟨u, z⟩ <;> rw [h2] at z <;> cases z) (fun o u z => by rw [h2] at z; cases z) fun c' l' eh => ⟨Ca, dx, _, by rw [l'.mg]; exact h1, eh, putF_rep (ry.le l') (h3.le l')⟩
          exact ⟨a, Ca, dx, vs, rfl, h2, hc1, hc2, by rw [← h3.length]; exact hc.2, l3, s3⟩
        · rw [if_neg hc] at e; cases e
      | _ => cases e
  | _ => cases e
theorem rs_fld {Cs : List Str} {f : Str} {o value : Expr} {mo mv : M D} {pos pos' : Pos} (hC : ClsFs X.K X.mg Cs f) (ho : RE X W o mo) (hv : RE X W value mv) (hs : swapsWith value (some (.Attribute o f pos')) pos.line X.env = pure false := by rfl) :
    RSt X W (.Assign [.Attribute o f pos'] value pos) (msFld Cs f mo mv) := by
  refine ps_imp (ps_fld ho hv hs) fun D σ H h => ?_
  obtain ⟨c, ε, h, r, h', hK, hm, rfl, sr, er, e, fin⟩ := h
  unfold sFld
  refine tX.stm hK hm sr er e fin fun y h1 c1 v e1 l1 s1 r1 => ?_
  refine tX.stm (l1.K.trans hK) (l1.mg.trans hm) s1 (er.le l1) e1 (fin.le l1) fun x h2 c2 u e2 l2 s2 r2 => ?_
  cases q : putO Cs f h2 x y with
  | none => rw [q] at e2; cases e2
  | some h3 =>
    rw [q] at e2
    cases e2
    obtain ⟨a, Ca, dx, vs, rfl, k1, k2, k3, k4, l3, s3⟩ := putO_ok s2 r2 (r1.le l2) q (by rw [l2.K, l1.K, hK, l2.mg, l1.mg, hm]; exact hC)
    rw [l2.K, l1.K, hK] at k2 k3
    exact ⟨a, Ca, dx, vs, rfl, k1, k2, k3, k4, fin _ σ ((l1.trans l2).trans l3) s3 (((er.le l1).le l2).le l3)⟩
/-- o.f += e, of ints -/
def msFldAug (Cs : List Str) (f : Str) (g : D → D → Option D) (o v : M D) : MS := fun ε h => bS (o ε h) ε fun x h1 => match dFld Cs f h1 x with
  | some z => bS (v ε h1) ε fun y h2 => (match g z y with
    | some w => (putO Cs f h2 x w).map fun h3 => (.nx ε, h3)
    | none => none)
  | none => none
def gAdd (x y : D) : Option D := match x, y with
  | .int i, .int j => some (.int (i + j))
  | _, _ => none
end
/-! ## calls of methods -/
structure MetI (P : Program) (w : World) (K : PySem.W.Frag) (mg : Str → Option Value) (base : Heap) (C m : Str) (k n : Nat) (F : IF) : Prop where
  ex : ∃ (Ca f : Addr) (fd : FuncData) (ps : List Str), mg C = some (.ref Ca) ∧ Cls K Ca ∧ Meth K Ca m f ∧ Binds K fd ps [] ∧ ps.length = n ∧ FnOk P w K mg base (L2.CX P w) k f fd ps (SpI K mg n F)
structure MetP (P : Program) (w : World) (K : PySem.W.Frag) (mg : Str → Option Value) (base : Heap) (C m : Str) (k n : Nat) (F : PF) : Prop where
  ex : ∃ (Ca f : Addr) (fd : FuncData) (ps : List Str), mg C = some (.ref Ca) ∧ Cls K Ca ∧ Meth K Ca m f ∧ Binds K fd ps [] ∧ ps.length = n ∧ FnOk P w K mg base (L2.CX P w) k f fd ps (SpP K mg n F)
/-- the wish does not look at the slots -/
def Flat (W : WX) : Prop := ∀ cls d σ σ' H, W cls d σ H → W cls d σ' H
theorem flat0 : Flat W0 := fun _ _ _ _ _ h => h
theorem flatE {E : XK} : Flat fun cls d _ H' => E cls d H' := fun _ _ _ _ _ h => h
abbrev EW (W : WX) : XK := fun cls d H => W cls d [] H
theorem passE {X : Cx} {W : WX} (tk : Takes X W) (fl : Flat W) : Passes (L2.CX X.prog X.w) X (EW W) := fun pins σ H s e s' I c => by
  obtain ⟨a, B, H', cls, d, h1, h2, h3, h4, h5, h6, h7, h8⟩ := c
  exact passAt tk σ pins H s e s' I ⟨a, B, H', cls, d, h1, h2, h3, h4, h5, h6, h7, fl _ _ _ _ _ h8⟩
def mMeI (C m : Str) (F : IF) (o : M D) (a : M (List D)) : M D := fun ε h => bR (o ε h) fun x h1 => match insD h1 x with
  | some (C', fs) => if C' = C ∧ fs.lookup m = none then bR (a ε h1) fun ds h2 => F (x :: ds) h2 else none
  | none => none
def mMeP (C m : Str) (F : PF) (o : M D) (a : M (List D)) : M D := fun ε h => bR (o ε h) fun x h1 => match insD h1 x with
  | some (C', fs) => if C' = C ∧ fs.lookup m = none then bR (a ε h1) fun ds h2 => if noRef.go (x :: ds) = true then (F (x :: ds)).map fun r => (r, h2) else none else none
  | none => none
section
variable {X : Cx} {W : WX}
theorem meI_of {C m : Str} {Ca : Addr} {n : Nat} {F : IF} {o : M D} {a : M (List D)} {σ : L2.St} {H : Hp} {Q : VK} (hCa : X.mg C = some (.ref Ca)) (fl : Flat W) (hn : ArN n a) (h : tE X.K X.mg W (mMeI C m F o a) σ H Q) :
    tMeth Ca m (SpI X.K X.mg (n + 1) F) [] (EW W) (tE X.K X.mg W o) (tA X.K X.mg W a) σ H Q := by
  obtain ⟨c, ε, h, r, h', hK, hm, rfl, sr, er, e, px, go⟩ := h
  unfold tMeth
  refine tX.bind hK hm sr er e px fun x h1 c1 v e1 l1 s1 r1 => ?_
  cases q : insD h1 x with
  | none => rw [q] at e1; cases e1
  | some z =>
    obtain ⟨C', fs⟩ := z
    rw [q] at e1
    dsimp only at e1
    by_cases hc : C' = C ∧ fs.lookup m = none
    · rw [if_pos hc] at e1
      obtain ⟨p, Cb, dx, vs, rfl, k1, k2, k3⟩ := insD_ok s1 r1 q
      obtain ⟨rfl, hl⟩ := hc
      rw [l1.mg, hm, hCa] at k1
      cases k1
      refine ⟨p, dx, vs, rfl, k2, k3.lookN hl, ?_⟩
      have e1' : bR (a ε h1) (fun ds h2 => F (x :: ds) h2) = some (r, h') := e1
      cases q1 : a ε h1 with
      | none => rw [q1] at e1'; cases e1'
      | some z =>
        obtain ⟨ra, h2⟩ := z
        rw [q1] at e1'
        cases ra with
        | ex y =>
          cases e1'
          exact ⟨c1, ε, h1, .ex y, _, l1.K.trans hK, l1.mg.trans hm, rfl, s1, er.le l1, q1, fun z ez c' cls dx l s xr => px z (by cases ez; rfl) c' cls dx (l1.trans l) s xr, fun a' ea => nomatch ea⟩
        | ok ds =>
          refine ⟨c1, ε, h1, .ok ds, h2, l1.K.trans hK, l1.mg.trans hm, rfl, s1, er.le l1, q1, Px.ok, fun ds' eds c2 us l2 s2 r2 => ?_⟩
          cases eds
          rw [List.append_nil]
          exact ⟨c2, h2, x :: ds, r, h', l2.K.trans (l1.K.trans hK), l2.mg.trans (l1.mg.trans hm), rfl, s2, .cons (r1.le l2) r2, congrArg Nat.succ (hn _ _ _ _ q1), e1', fun d ed c' v l s rd => go d ed c' v ((l1.trans l2).trans l) s rd,
            fun y ey c' cls dx l s xr => fl _ _ _ _ _ (px y ey c' cls dx ((l1.trans l2).trans l) s xr)⟩
    · rw [if_neg hc] at e1; cases e1
theorem re_methI {pl : Sem Bool} {C m : Str} {o e : Expr} {es : List Expr} {apos pos : Pos} {k j n : Nat} {F : IF} {mo : M D} {ma : M (List D)} (G : MetI X.prog X.w X.K X.mg X.base C m k (n + 1) F) (hr : Room j X.A) (tk : Takes X W) (fl : Flat W) (ho : RE X W o mo) (ha : RA X W (e :: es) ma) (hk : k ≤ j := by decide)
    (hn : ArN n ma := by repeat (first | exact ar_nil | refine ar_cons ?_)) (hst : starEach (e :: es) X.env = (false, eval e X.env) :: starEach es X.env := by rfl) (hpl : (backTo pos (starEach es X.env)).any (·.1) = false := by rfl)
    (ht : eval (.Call (.Attribute o m apos) (e :: es) [] pos) X.env = (do
      let ov ← eval o X.env
      standAt apos.atName
      let (f, first) ← holding [ov] (getMethod ov m pl)
      callWith pos f first (backTo pos (starEach (e :: es) X.env)) (backToKw pos (keywordEach [] X.env))) := by rfl) : RE X W (.Call (.Attribute o m apos) (e :: es) [] pos) (mMeI C m F mo ma) := by
  obtain ⟨Ca, f, fd, ps, h1, h2, h3, h4, h5, h6⟩ := G.ex
  exact pe_imp (pe_meth (pl := pl) ho h2 h3 h6 (hr.mono hk) h4 .nil (passE tk fl) ha hst hpl ht) fun σ H Q h => meI_of h1 fl hn h
theorem re_methI0 {pl : Sem Bool} {C m : Str} {o : Expr} {apos pos : Pos} {k j : Nat} {F : IF} {mo : M D} (G : MetI X.prog X.w X.K X.mg X.base C m k 1 F) (hr : Room j X.A) (tk : Takes X W) (fl : Flat W) (ho : RE X W o mo) (hk : k ≤ j := by decide)
    (ht : eval (.Call (.Attribute o m apos) [] [] pos) X.env = (do
      let ov ← eval o X.env
      standAt apos.atName
      let (f, first) ← holding [ov] (getMethod ov m pl)
      callWith pos f first (backTo pos (starEach [] X.env)) (backToKw pos (keywordEach [] X.env))) := by rfl) : RE X W (.Call (.Attribute o m apos) [] [] pos) (mMeI C m F mo mNil) := by
  obtain ⟨Ca, f, fd, ps, h1, h2, h3, h4, h5, h6⟩ := G.ex
  refine pe_imp (pe_meth0 (pl := pl) ho h2 h3 h6 (hr.mono hk) h4 .nil (passE tk fl) ht) fun σ H Q h => ?_
  have := meI_of (n := 0) h1 fl ar_nil h
  unfold tMeth at this ⊢
  refine tx_imp this fun v H1 ⟨a, dx, fs, e1, e2, e3, q⟩ => ⟨a, dx, fs, e1, e2, e3, ?_⟩
  obtain ⟨c, ε, h, r, h', hK, hm, rfl, sr, er, e, px, go⟩ := q
  cases e
  exact go [] rfl c [] (.refl c) sr .nil
end
end PD

namespace PD
open PySem PySem.Spec PyProof.Rows L2
section
variable {X : Cx} {W : WX}
theorem spP_of {K : PySem.W.Frag} {mg : Str → Option Value} {c : RC} {h : EH} {ds : List D} {vs : List V} {n : Nat} {F : PF} {r : R D} {Q : VK} {E : XK} (hK : c.K = K) (hm : c.mg = mg) (s : SR c h) (rv : Reps c ds vs) (hn : ds.length = n) (hr : noRef.go ds = true) (e : F ds = some r)
    (go : ∀ d, r = .ok d → ∀ c' v, c.Le c' → SR c' h → Rep c' d v → Q v c'.H) (gx : ∀ x, r = .ex x → ∀ c' cls dx, c.Le c' → SR c' h → ExR c' x cls dx → E cls dx c'.H) : SpP K mg n F vs c.H Q E := by
  have r1' : Reps (c.bare fun a => c.B a ∨ a ∈ c.ρ) ds vs := rv.bare (fun _ z => z) hr
  have back : ∀ c', (c.bare fun a => c.B a ∨ a ∈ c.ρ).Le c' → c.Le { c' with ρ := c.ρ, B := c.B } ∧ SR { c' with ρ := c.ρ, B := c.B } h := fun c' l => by
    have l2 : c.Le { c' with ρ := c.ρ, B := c.B } := ⟨l.K, l.mg, fun _ h => h, fun _ h => .inl h, l.dom, fun _ _ h => h, fun a o e t n => ⟨(l.keep a o e t List.not_mem_nil).1, n⟩, l.tup, l.frz⟩
    refine ⟨l2, s.len, s.nd, fun n a k e1 e2 => ?_, s.nb, fun a hb => ?_⟩
    · have cr := s.cells n a k e1 e2
      obtain ⟨o, eo⟩ := cr.ex
      refine cr.le l2 ?_
      have nt : ∀ ps, o ≠ .tbl ps := fun ps z => by
        subst z
        cases k with
        | lst ds => obtain ⟨xs, h1, _⟩ := cr; rw [eo] at h1; cases h1
        | dic t kvs => obtain ⟨o', zs, h1, h3, _⟩ := cr; rw [eo] at h1; cases h1; exact h3.tbl _ rfl
        | obj C fs => obtain ⟨_, _, _, _, h1, _⟩ := cr; rw [eo] at h1; cases h1
      exact (l.keep a o eo nt List.not_mem_nil).1.trans eo.symm
    · obtain ⟨o, eo⟩ := s.bt a hb
      exact l.dom a o eo
  refine ⟨c.bare fun a => c.B a ∨ a ∈ c.ρ, ds, r, hK, hm, rfl, rfl, fun a z => ?_, r1', hn, e, fun d ed c' v l hρ rd => ?_, fun x ex c' cls dx l hρ xr => ?_⟩
  · rcases z with z | z
    · exact s.bt a z
    · exact s.ex z
  · obtain ⟨l2, s2⟩ := back c' l
    refine go d ed { c' with ρ := c.ρ, B := c.B } v l2 s2 ?_
    exact Rep.unbare (fun a ha => l.B a (.inr ha)) (fun a ha => l.B a (.inl ha)) hρ rd
  · obtain ⟨l2, s2⟩ := back c' l
    refine gx x ex { c' with ρ := c.ρ, B := c.B } cls dx l2 s2 ?_
    obtain ⟨Ca, d, us, h1, h2, h3, h4, h5, h6⟩ := xr
    exact ⟨Ca, d, us, h1, h2, h3, h4, ⟨fun z => h5.1 (l.B _ (.inl z)), fun z => h5.1 (l.B _ (.inr z))⟩, RepF.unbare (fun a ha => l.B a (.inr ha)) (fun a ha => l.B a (.inl ha)) hρ h6⟩
theorem meP_of {C m : Str} {Ca : Addr} {n : Nat} {F : PF} {o : M D} {a : M (List D)} {σ : L2.St} {H : Hp} {Q : VK} (hCa : X.mg C = some (.ref Ca)) (fl : Flat W) (hn : ArN n a) (h : tE X.K X.mg W (mMeP C m F o a) σ H Q) :
    tMeth Ca m (SpP X.K X.mg (n + 1) F) [] (EW W) (tE X.K X.mg W o) (tA X.K X.mg W a) σ H Q := by
  obtain ⟨c, ε, h, r, h', hK, hm, rfl, sr, er, e, px, go⟩ := h
  unfold tMeth
  refine tX.bind hK hm sr er e px fun x h1 c1 v e1 l1 s1 r1 => ?_
  cases q : insD h1 x with
  | none => rw [q] at e1; cases e1
  | some z =>
    obtain ⟨C', fs⟩ := z
    rw [q] at e1
    dsimp only at e1
    by_cases hc : C' = C ∧ fs.lookup m = none
    · rw [if_pos hc] at e1
      obtain ⟨p, Cb, dx, vs, rfl, k1, k2, k3⟩ := insD_ok s1 r1 q
      obtain ⟨rfl, hl⟩ := hc
      rw [l1.mg, hm, hCa] at k1
      cases k1
      refine ⟨p, dx, vs, rfl, k2, k3.lookN hl, ?_⟩
      cases q1 : a ε h1 with
      | none => rw [q1] at e1; cases e1
      | some z =>
        obtain ⟨ra, h2⟩ := z
        rw [q1] at e1
        cases ra with
        | ex y =>
          cases e1
          exact ⟨c1, ε, h1, .ex y, _, l1.K.trans hK, l1.mg.trans hm, rfl, s1, er.le l1, q1, fun z ez c' cls dx l s xr => px z (by cases ez; rfl) c' cls dx (l1.trans l) s xr, fun a' ea => nomatch ea⟩
        | ok ds =>
          rw [bR_ok] at e1
          by_cases hr : noRef.go (x :: ds) = true
          · rw [if_pos hr] at e1
            cases q2 : F (x :: ds) with
            | none => rw [q2] at e1; cases e1
            | some r2 =>
              rw [q2] at e1
              cases e1
              refine ⟨c1, ε, h1, .ok ds, _, l1.K.trans hK, l1.mg.trans hm, rfl, s1, er.le l1, q1, Px.ok, fun ds' eds c2 us l2 s2 r2' => ?_⟩
              cases eds
              rw [List.append_nil]
              exact spP_of (l2.K.trans (l1.K.trans hK)) (l2.mg.trans (l1.mg.trans hm)) s2 (.cons (r1.le l2) r2') (congrArg Nat.succ (hn _ _ _ _ q1)) hr q2 (fun d ed c' v l s rd => go d ed c' v ((l1.trans l2).trans l) s rd)
                fun y ey c' cls dx l s xr => fl _ _ _ _ _ (px y ey c' cls dx ((l1.trans l2).trans l) s xr)
          · rw [if_neg hr] at e1; cases e1
    · rw [if_neg hc] at e1; cases e1
theorem re_methP {pl : Sem Bool} {C m : Str} {o e : Expr} {es : List Expr} {apos pos : Pos} {k j n : Nat} {F : PF} {mo : M D} {ma : M (List D)} (G : MetP X.prog X.w X.K X.mg X.base C m k (n + 1) F) (hr : Room j X.A) (tk : Takes X W) (fl : Flat W) (ho : RE X W o mo) (ha : RA X W (e :: es) ma) (hk : k ≤ j := by decide)
    (hn : ArN n ma := by repeat (first | exact ar_nil | refine ar_cons ?_)) (hst : starEach (e :: es) X.env = (false, eval e X.env) :: starEach es X.env := by rfl) (hpl : (backTo pos (starEach es X.env)).any (·.1) = false := by rfl)
    (ht : eval (.Call (.Attribute o m apos) (e :: es) [] pos) X.env = (do
      let ov ← eval o X.env
      standAt apos.atName
      let (f, first) ← holding [ov] (getMethod ov m pl)
      callWith pos f first (backTo pos (starEach (e :: es) X.env)) (backToKw pos (keywordEach [] X.env))) := by rfl) : RE X W (.Call (.Attribute o m apos) (e :: es) [] pos) (mMeP C m F mo ma) := by
  obtain ⟨Ca, f, fd, ps, h1, h2, h3, h4, h5, h6⟩ := G.ex
  exact pe_imp (pe_meth (pl := pl) ho h2 h3 h6 (hr.mono hk) h4 .nil (passE tk fl) ha hst hpl ht) fun σ H Q h => meP_of h1 fl hn h
theorem re_methP0 {pl : Sem Bool} {C m : Str} {o : Expr} {apos pos : Pos} {k j : Nat} {F : PF} {mo : M D} (G : MetP X.prog X.w X.K X.mg X.base C m k 1 F) (hr : Room j X.A) (tk : Takes X W) (fl : Flat W) (ho : RE X W o mo) (hk : k ≤ j := by decide)
    (ht : eval (.Call (.Attribute o m apos) [] [] pos) X.env = (do
      let ov ← eval o X.env
      standAt apos.atName
      let (f, first) ← holding [ov] (getMethod ov m pl)
      callWith pos f first (backTo pos (starEach [] X.env)) (backToKw pos (keywordEach [] X.env))) := by rfl) : RE X W (.Call (.Attribute o m apos) [] [] pos) (mMeP C m F mo mNil) := by
  obtain ⟨Ca, f, fd, ps, h1, h2, h3, h4, h5, h6⟩ := G.ex
  refine pe_imp (pe_meth0 (pl := pl) ho h2 h3 h6 (hr.mono hk) h4 .nil (passE tk fl) ht) fun σ H Q h => ?_
  have := meP_of (n := 0) h1 fl ar_nil h
  unfold tMeth at this ⊢
  refine tx_imp this fun v H1 ⟨a, dx, fs, e1, e2, e3, q⟩ => ⟨a, dx, fs, e1, e2, e3, ?_⟩
  obtain ⟨c, ε, h, r, h', hK, hm, rfl, sr, er, e, px, go⟩ := q
  cases e
  exact go [] rfl c [] (.refl c) sr .nil
end
/-! ## makers -/
theorem SR.cellG {c : RC} {h : EH} {p : Addr} {o : HO} {k : Cell} (s : SR c h) (hp : c.H p = none) (hk : ∀ c' : RC, c.Le c' → c'.H p = some o → CellR c' k p) : c.Le { c with ρ := c.ρ ++ [p], H := upd c.H p o } ∧ SR { c with ρ := c.ρ ++ [p], H := upd c.H p o } (h ++ [k]) := by
  have np : p ∉ c.ρ := fun z => by
    obtain ⟨o, e⟩ := s.ex z
    rw [hp] at e; cases e
  have ne : ∀ a o, c.H a = some o → a ≠ p := fun a o e z => by rw [z, hp] at e; cases e
  have l : c.Le { c with ρ := c.ρ ++ [p], H := upd c.H p o } := by
    refine ⟨rfl, rfl, fun _ h => h, fun _ h => .inl h, fun a u e => ⟨u, (upd_ne (ne a u e)).trans e⟩, fun n a e => ?_, fun a u e _ n => ⟨(upd_ne (ne a u e)).trans e, fun z => ?_⟩, fun a ys e => ?_, fun a o u e => (upd_ne (ne a _ e)).trans e⟩
    · show (c.ρ ++ [p])[n]? = some a
      rw [List.getElem?_append_left (List.getElem?_eq_some_iff.mp e).1]
      exact e
    · rcases List.mem_append.mp z with z | z
      · exact n z
      · exact ne a u e (List.mem_singleton.mp z)
    · rcases e with e | ⟨u, e⟩
      · exact .inl ((upd_ne (ne a _ e)).trans e)
      · exact .inr ⟨u, (upd_ne (ne a _ e)).trans e⟩
  refine ⟨l, ⟨by rw [List.length_append, List.length_append, s.len]; rfl, ?_, fun n a k' e1 e2 => ?_, fun a ha z => ?_, fun a hb => ?_⟩⟩
  · rw [List.nodup_append]
    refine ⟨s.nd, by simp, fun a ha b hb => ?_⟩
    rw [List.mem_singleton.mp hb]
    exact fun z => np (z ▸ ha)
  · have e1' : (c.ρ ++ [p])[n]? = some a := e1
    by_cases hn : n < c.ρ.length
    · rw [List.getElem?_append_left hn] at e1'
      rw [List.getElem?_append_left (by rw [← s.len]; exact hn)] at e2
      have cr := s.cells n a k' e1' e2
      obtain ⟨o, eo⟩ := cr.ex
      exact cr.le l (upd_ne (ne a o eo))
    · rw [List.getElem?_append_right (by omega)] at e1'
      rw [List.getElem?_append_right (by rw [← s.len]; omega), ← s.len] at e2
      cases q : n - c.ρ.length with
      | zero =>
        rw [q] at e1' e2
        cases e1'
        cases e2
        exact hk _ l upd_same
      | succ m =>
        rw [q] at e1'
        simp at e1'
  · rcases List.mem_append.mp ha with ha | ha
    · exact s.nb a ha z
    · rw [List.mem_singleton.mp ha] at z
      obtain ⟨o, e⟩ := s.bt p z
      rw [hp] at e; cases e
  · obtain ⟨o, e⟩ := s.bt a hb
    exact ⟨o, (upd_ne (ne a o e)).trans e⟩
/-- C(..): __init__ F over the new cell -/
structure MkI (P : Program) (w : World) (K : PySem.W.Frag) (mg : Str → Option Value) (base : Heap) (C : Str) (k n : Nat) (dd : List D) (F : IF) : Prop where
  ex : ∃ (Ca f : Addr) (fd : FuncData) (ps : List Str) (us : List Value) (dvs : List V), mg C = some (.ref Ca) ∧ Mk K Ca f ∧ Binds K fd ps us ∧ Vals dvs us ∧ (∀ c : RC, c.K = K → c.mg = mg → Reps c dd dvs) ∧ ps.length = n + 1 + dd.length ∧ FnOk P w K mg base (L2.CX P w) k f fd ps (SpI K mg (n + 1 + dd.length) F)
/-- .. the cell -/
def mMk (C : Str) (dd : List D) (F : IF) (a : M (List D)) : M D := fun ε h => bR (a ε h) fun ds h1 => match F (.ref h1.length :: (ds ++ dd)) (h1 ++ [.obj C []]) with
  | some (.ok .non, h2) => some (.ok (.ref h1.length), h2)
  | some (.ex e, h2) => some (.ex e, h2)
  | _ => none
/-- .. the object as a value, never written again -/
def mMkP (C : Str) (dd : List D) (F : IF) (a : M (List D)) : M D := fun ε h => bR (a ε h) fun ds h1 => match F (.ref h1.length :: (ds ++ dd)) (h1 ++ [.obj C []]) with
  | some (.ok .non, h2) => (match frzI h1.length h2 (.ref h1.length), trim h1.length h2 with
    | some d, some h3 => some (.ok d, h3)
    | _, _ => none)
  | some (.ex e, h2) => if noRef.gf e.fs = true then (trim h1.length h2).map fun h3 => (.ex e, h3) else none
  | _ => none
section
variable {X : Cx} {W : WX}
theorem mk_start {c : RC} {h : EH} {C : Str} {Ca x dx : Addr} (s : SR c h) (hC : c.mg C = some (.ref Ca)) (hx : c.H x = none) (hd : c.H dx = none) (ne : dx ≠ x) :
    c.Le { c with ρ := c.ρ ++ [x], H := upd (upd c.H dx (.own x)) x (.ins Ca dx []) } ∧ SR { c with ρ := c.ρ ++ [x], H := upd (upd c.H dx (.own x)) x (.ins Ca dx []) } (h ++ [.obj C []]) := by
  obtain ⟨l1, s1, f1⟩ := s.new (o := .own x) hd
  have hx' : (c.put dx (.own x)).H x = none := (upd_ne (show x ≠ dx from fun z => ne z.symm)).trans hx
  obtain ⟨l2, s2⟩ := s1.cellG (o := .ins Ca dx []) (k := .obj C []) hx' fun c' l e => ⟨Ca, dx, [], by rw [l.mg]; exact hC, e, .nil⟩
  exact ⟨l1.trans l2, s2⟩
theorem mk_of {C : Str} {Ca : Addr} {n : Nat} {dd : List D} {dvs : List V} {F : IF} {a : M (List D)} {σ : L2.St} {H : Hp} {Q : VK} (hCa : X.mg C = some (.ref Ca)) (hd : ∀ c : RC, c.K = X.K → c.mg = X.mg → Reps c dd dvs) (fl : Flat W) (hn : ArN n a) (h : tE X.K X.mg W (mMk C dd F a) σ H Q) :
    tMake Ca (SpI X.K X.mg (n + 1 + dd.length) F) dvs (EW W) (tA X.K X.mg W a) σ H Q := by
  obtain ⟨c, ε, h, r, h', hK, hm, rfl, sr, er, e, px, go⟩ := h
  unfold tMake
  cases q1 : a ε h with
  | none => rw [mMk, q1] at e; cases e
  | some z =>
    obtain ⟨ra, h1⟩ := z
    rw [mMk, q1] at e
    cases ra with
    | ex y =>
      cases e
      exact ⟨c, ε, h, .ex y, _, hK, hm, rfl, sr, er, q1, fun z ez => px z (by cases ez; rfl), fun a' ea => nomatch ea⟩
    | ok ds =>
      refine ⟨c, ε, h, .ok ds, h1, hK, hm, rfl, sr, er, q1, Px.ok, fun ds' eds c1 vs l1 s1 r1 x dx hx hdx ne => ?_⟩
      cases eds
      have hK1 := l1.K.trans hK
      have hm1 := l1.mg.trans hm
      obtain ⟨l2, s2⟩ := mk_start (C := C) (Ca := Ca) s1 (by rw [hm1]; exact hCa) hx hdx ne
      rw [bR_ok] at e
      have rx : Rep { c1 with ρ := c1.ρ ++ [x], H := upd (upd c1.H dx (.own x)) x (.ins Ca dx []) } (.ref h1.length) (.ref x) := .ref (by
        show (c1.ρ ++ [x])[h1.length]? = some x
        rw [← s1.len, List.getElem?_append_right (Nat.le_refl _), Nat.sub_self]
        rfl)
      have rr := Reps.cons rx ((r1.le l2).append (hd _ hK1 hm1))
      have len : (D.ref h1.length :: (ds ++ dd)).length = n + 1 + dd.length := by
        rw [List.length_cons, List.length_append, hn _ _ _ _ q1]
        omega
      cases q2 : F (.ref h1.length :: (ds ++ dd)) (h1 ++ [.obj C []]) with
      | none => rw [q2] at e; cases e
      | some z =>
        obtain ⟨rf, h2⟩ := z
        rw [q2] at e
        cases rf with
        | ok d =>
          cases d with
          | non =>
            cases e
            exact ⟨{ c1 with ρ := c1.ρ ++ [x], H := upd (upd c1.H dx (.own x)) x (.ins Ca dx []) }, _, _, _, _, hK1, hm1, rfl, s2, rr, len, q2, fun d ed c' v l s rd => (by cases ed; cases rd; exact ⟨rfl, go _ rfl c' _ ((l1.trans l2).trans l) s (rx.le l)⟩), fun y ey => nomatch ey⟩
          | _ => cases e
        | ex y =>
          cases e
          exact ⟨{ c1 with ρ := c1.ρ ++ [x], H := upd (upd c1.H dx (.own x)) x (.ins Ca dx []) }, _, _, _, _, hK1, hm1, rfl, s2, rr, len, q2, (fun d ed => nomatch ed), fun z ez c' cls dx l s xr => (by cases ez; exact fl _ _ _ _ _ (px y rfl c' cls dx ((l1.trans l2).trans l) s xr))⟩
theorem mkP_of {C : Str} {Ca : Addr} {n : Nat} {dd : List D} {dvs : List V} {F : IF} {a : M (List D)} {σ : L2.St} {H : Hp} {Q : VK} (hCa : X.mg C = some (.ref Ca)) (hd : ∀ c : RC, c.K = X.K → c.mg = X.mg → Reps c dd dvs) (fl : Flat W) (hn : ArN n a) (h : tE X.K X.mg W (mMkP C dd F a) σ H Q) :
    tMake Ca (SpI X.K X.mg (n + 1 + dd.length) F) dvs (EW W) (tA X.K X.mg W a) σ H Q := by
  obtain ⟨c, ε, h, r, h', hK, hm, rfl, sr, er, e, px, go⟩ := h
  unfold tMake
  cases q1 : a ε h with
  | none => rw [mMkP, q1] at e; cases e
  | some z =>
    obtain ⟨ra, h1⟩ := z
    rw [mMkP, q1] at e
    cases ra with
    | ex y =>
      cases e
      exact ⟨c, ε, h, .ex y, _, hK, hm, rfl, sr, er, q1, fun z ez => px z (by cases ez; rfl), fun a' ea => nomatch ea⟩
    | ok ds =>
      refine ⟨c, ε, h, .ok ds, h1, hK, hm, rfl, sr, er, q1, Px.ok, fun ds' eds c1 vs l1 s1 r1 x dx hx hdx ne => ?_⟩
      cases eds
      have hK1 := l1.K.trans hK
      have hm1 := l1.mg.trans hm
      obtain ⟨l2, s2⟩ := mk_start (C := C) (Ca := Ca) s1 (by rw [hm1]; exact hCa) hx hdx ne
      rw [bR_ok] at e
      have rx : Rep { c1 with ρ := c1.ρ ++ [x], H := upd (upd c1.H dx (.own x)) x (.ins Ca dx []) } (.ref h1.length) (.ref x) := .ref (by
        show (c1.ρ ++ [x])[h1.length]? = some x
        rw [← s1.len, List.getElem?_append_right (Nat.le_refl _), Nat.sub_self]
        rfl)
      have rr := Reps.cons rx ((r1.le l2).append (hd _ hK1 hm1))
      have len : (D.ref h1.length :: (ds ++ dd)).length = n + 1 + dd.length := by
        rw [List.length_cons, List.length_append, hn _ _ _ _ q1]
        omega
      have L2' := l1.trans l2
      -- back to the cells before
      have lc : ∀ c', { c1 with ρ := c1.ρ ++ [x], H := upd (upd c1.H dx (.own x)) x (.ins Ca dx []) }.Le c' → c1.Le (c'.cut c1.ρ.length) := fun c' l => le_cut (l2.trans l)
      cases q2 : F (.ref h1.length :: (ds ++ dd)) (h1 ++ [.obj C []]) with
      | none => rw [q2] at e; cases e
      | some z =>
        obtain ⟨rf, h2⟩ := z
        rw [q2] at e
        cases rf with
        | ok d =>
          cases d with
          | non =>
            dsimp only at e
            cases q3 : frzI h1.length h2 (.ref h1.length) with
            | none => rw [q3] at e; cases e
            | some d' =>
              cases q4 : trim h1.length h2 with
              | none => rw [q3, q4] at e; cases e
              | some h3 =>
                rw [q3, q4] at e
                cases e
                refine ⟨{ c1 with ρ := c1.ρ ++ [x], H := upd (upd c1.H dx (.own x)) x (.ins Ca dx []) }, _, _, _, _, hK1, hm1, rfl, s2, rr, len, q2, fun d ed c' v l s rd => (by
                  cases ed; cases rd
                  rw [← s1.len] at q3 q4
                  have rx' := rx.le l
                  rw [← s1.len] at rx'
                  exact ⟨rfl, go _ rfl (c'.cut c1.ρ.length) _ (l1.trans (lc c' l)) (trim_ok s q4) (frzI_ok s rx' q3)⟩), fun y ey => nomatch ey⟩
          | _ => cases e
        | ex y =>
          dsimp only at e
          by_cases hr : noRef.gf y.fs = true
          · rw [if_pos hr] at e
            cases q4 : trim h1.length h2 with
            | none => rw [q4] at e; cases e
            | some h3 =>
              rw [q4] at e
              cases e
              refine ⟨{ c1 with ρ := c1.ρ ++ [x], H := upd (upd c1.H dx (.own x)) x (.ins Ca dx []) }, _, _, _, _, hK1, hm1, rfl, s2, rr, len, q2, (fun d ed => nomatch ed), fun z ez c' cls dx l s xr => (by
                cases ez
                rw [← s1.len] at q4
                refine fl _ _ _ _ _ (px y rfl (c'.cut c1.ρ.length) cls dx (l1.trans (lc c' l)) (trim_ok s q4) ?_)
                obtain ⟨Ca', d, us, g1, g2, g3, g4, g5, g6⟩ := xr
                exact ⟨Ca', d, us, g1, g2, g3, g4, ⟨g5.1, fun z => g5.2 (List.mem_of_mem_take z)⟩, g6.re cut_sub hr⟩)⟩
          · rw [if_neg hr] at e; cases e
variable {C : Str} {p pos : Pos} {e : Expr} {es : List Expr} {k j n : Nat} {dd : List D} {F : IF} {ma : M (List D)}
theorem re_mk (G : MkI X.prog X.w X.K X.mg X.base C k n dd F) (hr : Room j X.A) (tk : Takes X W) (fl : Flat W) (ha : RA X W (e :: es) ma) (hk : k + 1 ≤ j := by decide)
    (hn : ArN n ma := by repeat (first | exact ar_nil | refine ar_cons ?_)) (hg : Gl X C := by rfl) (hdb : (C == ("__debug__" : Str)) = false := by decide) (he : starEach (e :: es) X.env = (false, eval e X.env) :: starEach es X.env := by rfl) (hpl : (backTo pos (starEach es X.env)).any (·.1) = false := by rfl) :
    RE X W (.Call (.Name C p) (e :: es) [] pos) (mMk C dd F ma) := by
  obtain ⟨Ca, f, fd, ps, us, dvs, h1, h2, h3, h4, h5, h6, h7⟩ := G.ex
  exact pe_imp (pe_make h2 h7 (hr.mono hk) hg h1 h3 h4 (passE tk fl) ha hdb he hpl) fun σ H Q h => mk_of h1 h5 fl hn h
theorem re_mkP (G : MkI X.prog X.w X.K X.mg X.base C k n dd F) (hr : Room j X.A) (tk : Takes X W) (fl : Flat W) (ha : RA X W (e :: es) ma) (hk : k + 1 ≤ j := by decide)
    (hn : ArN n ma := by repeat (first | exact ar_nil | refine ar_cons ?_)) (hg : Gl X C := by rfl) (hdb : (C == ("__debug__" : Str)) = false := by decide) (he : starEach (e :: es) X.env = (false, eval e X.env) :: starEach es X.env := by rfl) (hpl : (backTo pos (starEach es X.env)).any (·.1) = false := by rfl) :
    RE X W (.Call (.Name C p) (e :: es) [] pos) (mMkP C dd F ma) := by
  obtain ⟨Ca, f, fd, ps, us, dvs, h1, h2, h3, h4, h5, h6, h7⟩ := G.ex
  exact pe_imp (pe_make h2 h7 (hr.mono hk) hg h1 h3 h4 (passE tk fl) ha hdb he hpl) fun σ H Q h => mkP_of h1 h5 fl hn h
end
end PD

namespace PD
open PySem PySem.Spec PyProof.Rows L2
section
variable {X : Cx} {W : WX}
/-! ### *e among the items -/
def mStar (a : M D) (b : M (List D)) : M (List D) := fun ε h => bR (a ε h) fun x h1 => match asS h1 x with
  | some xs => bR (b ε h1) fun ys h2 => some (.ok (xs ++ ys), h2)
  | none => none
theorem ra_star {e : Expr} {p : Pos} {es : List Expr} {me : M D} {m : M (List D)} (he : RE X W e me) (hr : RA X W es m) (hs : starEach (.Starred e p :: es) X.env = (true, eval e X.env) :: starEach es X.env := by rfl) : RA X W (.Starred e p :: es) (mStar me m) := by
  refine pa_imp (StX.pa_star he hr hs) fun σ H Q h => ?_
  obtain ⟨c, ε, h, r', h', hK, hm, rfl, sr, er, e, px, go⟩ := h
  unfold StX.tStar
  refine tX.bind hK hm sr er e px fun x h1 c1 v e1 l1 s1 r1 => ?_
  cases q : asS h1 x with
  | none => rw [q] at e1; cases e1
  | some ds =>
    rw [q] at e1
    obtain ⟨a, xs, rfl, hx, rx⟩ := asS_ok s1 r1 q
    have hx' : SqT X.K c1.H a xs ∨ SqL X.K c1.H a xs := by
      rw [← hK, ← l1.K]
      exact hx.symm
    refine ⟨a, xs, rfl, hx', ?_⟩
    refine tX.bind (l1.K.trans hK) (l1.mg.trans hm) s1 (er.le l1) e1 (px.le l1) fun ys h2 c2 zs e2 l2 s2 r2 => ?_
    cases e2
    exact go _ rfl c2 _ (l1.trans l2) s2 ((rx.le l2).append r2)
/-! ### while -/
def whL (t : M Bool) (b : MS) : Nat → Ev → EH → Option (RS × EH)
  | 0, _, _ => none
  | n + 1, ε, h => bS (t ε h) ε fun k h1 => if k = true then (match b ε h1 with
    | some (.nx ε2, h2) => whL t b n ε2 h2
    | some (.ct ε2, h2) => whL t b n ε2 h2
    | some (.bk ε2, h2) => some (.nx ε2, h2)
    | some (.rt d, h2) => some (.rt d, h2)
    | some (.ex e ε2, h2) => some (.ex e ε2, h2)
    | none => none) else some (.nx ε, h1)
def msWh (n : Nat) (t : M Bool) (b : MS) : MS := fun ε h => whL t b n ε h
theorem whL_up {t : M Bool} {b : MS} {r : RS × EH} : ∀ {n m : Nat} {ε : Ev} {h : EH}, n ≤ m → whL t b n ε h = some r → whL t b m ε h = some r
  | 0, _, _, _, _, e => by cases e
  | n + 1, 0, _, _, l, _ => absurd l (Nat.not_succ_le_zero n)
  | n + 1, m + 1, ε, h, l, e => by
    unfold whL at e ⊢
    cases q : t ε h with
    | none => rw [q] at e; cases e
    | some z =>
      obtain ⟨rk, h1⟩ := z
      rw [q] at e
      cases rk with
      | ex x => exact e
      | ok k =>
        cases k with
        | false => exact e
        | true =>
          have e' : (match b ε h1 with
            | some (.nx ε2, h2) => whL t b n ε2 h2
            | some (.ct ε2, h2) => whL t b n ε2 h2
            | some (.bk ε2, h2) => some (.nx ε2, h2)
            | some (.rt d, h2) => some (.rt d, h2)
            | some (.ex e ε2, h2) => some (.ex e ε2, h2)
            | none => none) = some r := e
          show (match b ε h1 with
            | some (.nx ε2, h2) => whL t b m ε2 h2
            | some (.ct ε2, h2) => whL t b m ε2 h2
            | some (.bk ε2, h2) => some (.nx ε2, h2)
            | some (.rt d, h2) => some (.rt d, h2)
            | some (.ex e ε2, h2) => some (.ex e ε2, h2)
            | none => none) = some r
          cases q2 : b ε h1 with
          | none => rw [q2] at e'; cases e'
          | some z =>
            obtain ⟨rb, h2⟩ := z
            rw [q2] at e'
            cases rb with
            | nx ε2 => exact whL_up (Nat.le_of_succ_le_succ l) e'
            | ct ε2 => exact whL_up (Nat.le_of_succ_le_succ l) e'
            | bk ε2 => exact e'
            | rt d => exact e'
            | ex x ε2 => exact e'
theorem rs_while (n : Nat) {t : Expr} {body : List Stmt} {mt : M Bool} {b : MS} {pos : Pos} (hp : PassesOwn (model X.prog X.w) X.A X.env X.xe) (ht : RT X W t mt) (hb : RSs X W body b) : RSt X W (.While t body [] pos) (msWh n mt b) := by
  refine ps_imp (ps_while hp ht hb) fun D σ H h => ?_
  obtain ⟨c, ε, h, r, h', hK, hm, rfl, sr, er, e, fin⟩ := h
  unfold tWhile
  refine ⟨fun m σ H => ∃ c2 ε2 h2, c.Le c2 ∧ c2.H = H ∧ SR c2 h2 ∧ EnvR c2 ε2 σ ∧ whL mt b m ε2 h2 = some (r, h'), ⟨n, c, ε, h, .refl c, rfl, sr, er, e⟩, ?_⟩
  rintro m σ H ⟨c2, ε2, h2, l2, rfl, s2, en2, e2⟩
  cases m with
  | zero => cases e2
  | succ m =>
    unfold whL at e2
    have hK2 := l2.K.trans hK
    have hm2 := l2.mg.trans hm
    refine tX.stm hK2 hm2 s2 en2 e2 (fin.le l2) fun k h3 c3 k' e3 l3 s3 rk => ?_
    subst rk
    have L3 := l2.trans l3
    cases k with
    | false =>
      rw [if_neg Bool.false_ne_true] at e3 ⊢
      cases e3
      exact fin c3 σ L3 s3 (en2.le l3)
    | true =>
      rw [if_pos rfl] at e3 ⊢
      refine ⟨fun σ' H' => ∃ c4 ε4 h4, c.Le c4 ∧ c4.H = H' ∧ SR c4 h4 ∧ EnvR c4 ε4 σ' ∧ whL mt b m ε4 h4 = some (r, h'), fun σ' H' z => ⟨m, Nat.lt_succ_self m, z⟩, ?_⟩
      cases q2 : b ε2 h3 with
      | none => rw [q2] at e3; cases e3
      | some z =>
        obtain ⟨rb, h5⟩ := z
        rw [q2] at e3
        refine ⟨c3, ε2, h3, rb, h5, L3.K.trans hK, L3.mg.trans hm, rfl, s3, en2.le l3, q2, ?_⟩
        cases rb with
        | nx ε5 => exact fun c5 σ5 l5 s5 en5 => ⟨c5, ε5, h5, L3.trans l5, rfl, s5, en5, e3⟩
        | ct ε5 => exact fun c5 σ5 l5 s5 en5 => ⟨c5, ε5, h5, L3.trans l5, rfl, s5, en5, e3⟩
        | bk ε5 => cases e3; exact (fin.le L3)
        | rt d5 => cases e3; exact (fin.le L3)
        | ex x5 ε5 => cases e3; exact (fin.le L3)
/-! ### x += e, o.f += e, of ints -/
def addI (x y : D) : Option D := match x, y with
  | .int i, .int j => some (.int (i + j))
  | _, _ => none
def msAug (i : Nat) (m : M D) : MS := fun ε h => match ε.getD i none with
  | some x => bS (m ε h) ε fun y h1 => (addI x y).map fun z => (.nx (ε.set i (some z)), h1)
  | none => none
theorem rs_aug (i : Nat) {x : Str} {e : Expr} {m : M D} {pos pos' : Pos} (hN : X.N.Nodup) (he : RE X W e m) (hi : X.N[i]? = some x := by rfl) (hx : Loc X.env.scope x := by first | exact Or.inl rfl | exact Or.inr rfl)
    (hf : X.fn x = true ∨ X.env.scope.names.lookup x = some .local := by first | exact .inl rfl | exact .inr rfl | assumption) : RSt X W (.AugAssign (.Name x pos') .Add e pos) (msAug i m) := by
  refine ps_imp (ps_aug hN hi hx he ip_add hf) fun D σ H h => ?_
  obtain ⟨c, ε, h, r, h', hK, hm, rfl, sr, er, e, fin⟩ := h
  unfold tAug
  unfold msAug at e
  cases q : ε.getD i none with
  | none => rw [q] at e; cases e
  | some x =>
    rw [q] at e
    dsimp only at e
    have q2 : ε[i]? = some (some x) := by
      rw [List.getD_eq_getElem?_getD] at q
      cases z : ε[i]? with
      | none => rw [z] at q; cases q
      | some y => rw [z] at q; exact congrArg some q
    obtain ⟨v, h1, rx⟩ := er.at_ i x q2
    refine ⟨v, h1, ?_⟩
    refine tX.stm hK hm sr er e fin fun y h1 c1 w e1 l1 s1 r1 => ?_
    cases x with
    | int a =>
      cases y with
      | int b =>
        cases e1
        cases rx
        cases r1
        exact ⟨a, b, rfl, rfl, fin c1 _ l1 s1 ((er.le l1).set (.int _) i)⟩
      | _ => cases e1
    | _ => cases e1
def msFAug (Cs : List Str) (f : Str) (o v : M D) : MS := fun ε h => bS (o ε h) ε fun x h1 => match dFld Cs f h1 x with
  | some z => bS (v ε h1) ε fun y h2 => (match addI z y with
    | some w => if (insD h1 x).map (·.1) = (insD h2 x).map (·.1) then (putO Cs f h2 x w).map fun h3 => (.nx ε, h3) else none
    | none => none)
  | none => none
theorem rs_faug {Cs : List Str} {f : Str} {o value : Expr} {mo mv : M D} {pos tpos : Pos} (hC : ClsFs X.K X.mg Cs f) (ho : RE X W o mo) (hv : RE X W value mv) : RSt X W (.AugAssign (.Attribute o f tpos) .Add value pos) (msFAug Cs f mo mv) := by
  refine ps_imp (ps_fldaug ho hv in_add) fun D σ H h => ?_
  obtain ⟨c, ε, h, r, h', hK, hm, rfl, sr, er, e, fin⟩ := h
  unfold sFldAug
  refine tX.stm hK hm sr er e fin fun x h1 c1 u e1 l1 s1 r1 => ?_
  unfold dFld at e1
  cases q : insD h1 x with
  | none => rw [q] at e1; cases e1
  | some z =>
    obtain ⟨C, fs⟩ := z
    rw [q] at e1
    dsimp only at e1
    by_cases hc : C ∈ Cs
    · rw [if_pos hc] at e1
      obtain ⟨a, Ca, dx, vs, rfl, k1, k2, k3⟩ := insD_ok s1 r1 q
      cases q2 : fs.lookup f with
      | none => rw [q2] at e1; cases e1
      | some z =>
        rw [q2] at e1
        obtain ⟨v2, hl2, rv2⟩ := k3.look q2
        obtain ⟨hc1, hc2⟩ := hC.at hc (by rw [← hm, ← l1.mg]; exact k1)
        refine ⟨a, Ca, dx, vs, v2, rfl, k2, hc1, hc2, hl2, ?_⟩
        refine tX.stm (l1.K.trans hK) (l1.mg.trans hm) s1 (er.le l1) e1 (fin.le l1) fun y h2 c2 w e2 l2 s2 r2 => ?_
        cases z with
        | int i =>
          cases y with
          | int j =>
            cases rv2
            cases r2
            have e2' : (if (some (C, fs)).map (·.1) = (insD h2 x).map (·.1) then (putO Cs f h2 x (.int (i + j))).map (fun h3 => (RS.nx ε, h3)) else none) = some (r, h') := e2
            by_cases hcl : (some (C, fs)).map (·.1) = (insD h2 x).map (·.1)
            · rw [if_pos hcl] at e2'
              cases q3 : putO Cs f h2 x (.int (i + j)) with
              | none => rw [q3] at e2'; cases e2'
              | some h3 =>
                rw [q3] at e2'
                cases e2'
                obtain ⟨a', Ca', dx', vs', ea, g1, g2, g3, g4, l3, s3⟩ := putO_ok s2 (r1.le l2) (.int (i + j)) q3 (by rw [l2.K, l1.K, hK, l2.mg, l1.mg, hm]; exact hC)
                cases ea
                cases q4 : insD h2 x with
                | none => rw [q4] at hcl; cases hcl
                | some z =>
                  obtain ⟨C2, fs2⟩ := z
                  rw [q4] at hcl
                  have eC : C = C2 := by simpa using hcl
                  subst eC
                  obtain ⟨a2, Ca2, dx2, vs2, ea2, m1, m2, m3⟩ := insD_ok s2 (r1.le l2) q4
                  cases ea2
                  rw [l2.mg, k1] at m1
                  cases m1
                  rw [g1] at m2
                  cases m2
                  exact ⟨i, j, rfl, rfl, dx', vs', g1, g4, fin _ σ ((l1.trans l2).trans l3) s3 (((er.le l1).le l2).le l3)⟩
            · rw [if_neg hcl] at e2'; cases e2'
          | _ => cases e2
        | _ => cases e2
    · rw [if_neg hc] at e1; cases e1
end
end PD

namespace PD
open PySem PySem.Spec PyProof.Rows L2
/-! ## a new object that is not to be touched yet -/
mutual
theorem Rep.moreG {c : RC} {p : Addr} {o : HO} (hp : c.H p = none) : ∀ {d : D} {v : V}, Rep c d v → Rep { c with B := fun a => c.B a ∨ a = p, H := upd c.H p o } d v
  | _, _, .non => .non
  | _, _, .bl b => .bl b
  | _, _, .int i => .int i
  | _, _, .str cs => .str cs
  | _, _, .tup (a := a) (xs := ys) h r => .tup (by
      rcases h with (h | ⟨u, h⟩) | h
      · exact .inl (.inl ((upd_ne (show a ≠ p from fun z => by rw [z, hp] at h; cases h)).trans h))
      · exact .inl (.inr ⟨u, (upd_ne (show a ≠ p from fun z => by rw [z, hp] at h; cases h)).trans h⟩)
      · exact .inr h) (Reps.moreG hp r)
  | _, _, .lst (a := a) h f r => by
      have ne : a ≠ p := fun z => by rw [z, hp] at h; cases h
      exact .lst ((upd_ne ne).trans h) ⟨fun z => z.elim f.1 ne, f.2⟩ (Reps.moreG hp r)
  | _, _, .scr (a := a) h r => .scr (by
      rcases h with ⟨u, h⟩ | h
      · exact .inl ⟨u, (upd_ne (show a ≠ p from fun z => by rw [z, hp] at h; cases h)).trans h⟩
      · exact .inr h) (Reps.moreG hp r)
  | _, _, .obj (a := a) m h f r => by
      have ne : a ≠ p := fun z => by rw [z, hp] at h; cases h
      exact .obj m ((upd_ne ne).trans h) ⟨fun z => z.elim f.1 ne, f.2⟩ (RepF.moreG hp r)
  | _, _, .dic (a := a) h i f r => by
      have ne : a ≠ p := fun z => by rw [z, hp] at h; cases h
      exact .dic ((upd_ne ne).trans h) i ⟨fun z => z.elim f.1 ne, f.2⟩ (RepP.moreG hp r)
  | _, _, .ref h => .ref h
theorem Reps.moreG {c : RC} {p : Addr} {o : HO} (hp : c.H p = none) : ∀ {ds : List D} {vs : List V}, Reps c ds vs → Reps { c with B := fun a => c.B a ∨ a = p, H := upd c.H p o } ds vs
  | _, _, .nil => .nil
  | _, _, .cons h t => .cons (Rep.moreG hp h) (Reps.moreG hp t)
theorem RepP.moreG {c : RC} {p : Addr} {o : HO} (hp : c.H p = none) : ∀ {ds : List (List Key × D)} {vs : List (List Key × V)}, RepP c ds vs → RepP { c with B := fun a => c.B a ∨ a = p, H := upd c.H p o } ds vs
  | _, _, .nil => .nil
  | _, _, .cons h t => .cons (Rep.moreG hp h) (RepP.moreG hp t)
theorem RepF.moreG {c : RC} {p : Addr} {o : HO} (hp : c.H p = none) : ∀ {ds : List (Str × D)} {vs : List (Str × V)}, RepF c ds vs → RepF { c with B := fun a => c.B a ∨ a = p, H := upd c.H p o } ds vs
  | _, _, .nil => .nil
  | _, _, .cons h t => .cons (Rep.moreG hp h) (RepF.moreG hp t)
end
/-- the start -/
theorem Over.startG {c : RC} {h : EH} {p : Addr} {o : HO} (s : SR c h) (hp : c.H p = none) : Over c { c with B := fun a => c.B a ∨ a = p, H := upd c.H p o } p ∧ SR { c with B := fun a => c.B a ∨ a = p, H := upd c.H p o } h := by
  have np : p ∉ c.ρ := fun z => by
    obtain ⟨ob', e⟩ := s.ex z
    rw [hp] at e; cases e
  have ne : ∀ a ob, c.H a = some ob → a ≠ p := fun a o e z => by rw [z, hp] at e; cases e
  refine ⟨⟨⟨rfl, rfl, fun _ h => .inl h, fun a h => h.imp id fun z => by rw [z]; exact hp, fun a u e => ⟨u, (upd_ne (ne a u e)).trans e⟩, fun _ _ h => h, fun a u e _ n => ⟨(upd_ne (ne a u e)).trans e, n⟩, fun a ys e => ?_, fun a ob u e => (upd_ne (ne a _ e)).trans e⟩, .inr rfl, hp, s.bt⟩, ⟨s.len, s.nd, fun n a k e1 e2 => ?_, fun a ha z => z.elim (s.nb a ha) fun z => np (z ▸ ha), fun a hb => ?_⟩⟩
  · rcases e with e | ⟨u, e⟩
    · exact .inl ((upd_ne (ne a _ e)).trans e)
    · exact .inr ⟨u, (upd_ne (ne a _ e)).trans e⟩
  · have r := s.cells n a k e1 e2
    cases k with
    | lst ds => obtain ⟨ys, h1, h2⟩ := r; exact ⟨ys, (upd_ne (ne a _ h1)).trans h1, h2.moreG hp⟩
    | dic t kvs => obtain ⟨ob, zs, h1, h3, h2⟩ := r; exact ⟨ob, zs, (upd_ne (ne a _ h1)).trans h1, h3, h2.moreG hp⟩
    | obj C fs => obtain ⟨Ca, dx, vs, h0, h1, h2⟩ := r; exact ⟨Ca, dx, vs, h0, (upd_ne (ne a _ h1)).trans h1, h2.moreG hp⟩
  · rcases hb with hb | rfl
    · obtain ⟨u, e⟩ := s.bt a hb
      exact ⟨u, (upd_ne (ne a u e)).trans e⟩
    · exact ⟨_, upd_same⟩
/-! the list at p, which is not to be touched, is written by the comprehension itself -/
mutual
theorem Rep.putBG {c : RC} {p : Addr} {o o' : HO} (hB : c.B p) (hp : c.H p = some o) (g1 : ∀ xs, o ≠ .tup xs) (g2 : ∀ a b, o ≠ .frz a b) : ∀ {d : D} {v : V}, Rep c d v → Rep (c.put p o') d v
  | _, _, .non => .non
  | _, _, .bl b => .bl b
  | _, _, .int i => .int i
  | _, _, .str cs => .str cs
  | _, _, .tup (a := a) h r => .tup (by
      rcases h with (h | ⟨u, h⟩) | h
      · exact .inl (.inl ((upd_ne (show a ≠ p from fun z => by rw [z, hp] at h; exact g1 _ (Option.some.inj h))).trans h))
      · exact .inl (.inr ⟨u, (upd_ne (show a ≠ p from fun z => by rw [z, hp] at h; exact g2 _ _ (Option.some.inj h))).trans h⟩)
      · exact .inr h) (Reps.putBG hB hp g1 g2 r)
  | _, _, .lst (a := a) h f r => by
      have ne : a ≠ p := fun z => f.1 (z ▸ hB)
      exact .lst ((upd_ne ne).trans h) f (Reps.putBG hB hp g1 g2 r)
  | _, _, .scr (a := a) h r => .scr (by
      rcases h with ⟨u, h⟩ | h
      · exact .inl ⟨u, (upd_ne (show a ≠ p from fun z => by rw [z, hp] at h; exact g2 _ _ (Option.some.inj h))).trans h⟩
      · exact .inr h) (Reps.putBG hB hp g1 g2 r)
  | _, _, .obj (a := a) m h f r => by
      have ne : a ≠ p := fun z => f.1 (z ▸ hB)
      exact .obj m ((upd_ne ne).trans h) f (RepF.putBG hB hp g1 g2 r)
  | _, _, .dic (a := a) h i f r => by
      have ne : a ≠ p := fun z => f.1 (z ▸ hB)
      exact .dic ((upd_ne ne).trans h) i f (RepP.putBG hB hp g1 g2 r)
  | _, _, .ref h => .ref h
theorem Reps.putBG {c : RC} {p : Addr} {o o' : HO} (hB : c.B p) (hp : c.H p = some o) (g1 : ∀ xs, o ≠ .tup xs) (g2 : ∀ a b, o ≠ .frz a b) : ∀ {ds : List D} {vs : List V}, Reps c ds vs → Reps (c.put p o') ds vs
  | _, _, .nil => .nil
  | _, _, .cons h t => .cons (Rep.putBG hB hp g1 g2 h) (Reps.putBG hB hp g1 g2 t)
theorem RepP.putBG {c : RC} {p : Addr} {o o' : HO} (hB : c.B p) (hp : c.H p = some o) (g1 : ∀ xs, o ≠ .tup xs) (g2 : ∀ a b, o ≠ .frz a b) : ∀ {ds : List (List Key × D)} {vs : List (List Key × V)}, RepP c ds vs → RepP (c.put p o') ds vs
  | _, _, .nil => .nil
  | _, _, .cons h t => .cons (Rep.putBG hB hp g1 g2 h) (RepP.putBG hB hp g1 g2 t)
theorem RepF.putBG {c : RC} {p : Addr} {o o' : HO} (hB : c.B p) (hp : c.H p = some o) (g1 : ∀ xs, o ≠ .tup xs) (g2 : ∀ a b, o ≠ .frz a b) : ∀ {ds : List (Str × D)} {vs : List (Str × V)}, RepF c ds vs → RepF (c.put p o') ds vs
  | _, _, .nil => .nil
  | _, _, .cons h t => .cons (Rep.putBG hB hp g1 g2 h) (RepF.putBG hB hp g1 g2 t)
end
theorem Over.putBG {c c' : RC} {h : EH} {p : Addr} {b b' : HO} (o : Over c c' p) (s : SR c' h) (hp : c'.H p = some b) (g1 : ∀ xs, b ≠ .tup xs) (g2 : ∀ x y, b ≠ .frz x y) : Over c (c'.put p b') p ∧ SR (c'.put p b') h := by
  have hB : c'.B p := o.Bp
  refine ⟨⟨⟨o.le.K, o.le.mg, o.le.B, o.le.Bn, fun a u e => ?_, o.le.pre, fun a u e t n => ?_, fun a zs e => ?_, fun a u w e => (upd_ne (show a ≠ p from o.ne e)).trans (o.le.frz a u w e)⟩, o.Bp, o.new, o.bt⟩, ⟨s.len, s.nd, fun n a k e1 e2 => ?_, s.nb, fun a hb => ?_⟩⟩
  · obtain ⟨u', h1⟩ := o.le.dom a u e
    exact ⟨u', (upd_ne (o.ne e)).trans h1⟩
  · obtain ⟨h1, n1⟩ := o.le.keep a u e t n
    exact ⟨(upd_ne (o.ne e)).trans h1, n1⟩
  · rcases o.le.tup a zs e with e' | ⟨u, e'⟩
    · exact .inl ((upd_ne (show a ≠ p from fun z => by rw [z, hp] at e'; exact g1 _ (Option.some.inj e'))).trans e')
    · exact .inr ⟨u, (upd_ne (show a ≠ p from fun z => by rw [z, hp] at e'; exact g2 _ _ (Option.some.inj e'))).trans e'⟩
  · have r := s.cells n a k e1 e2
    have ne : a ≠ p := fun z => s.nb a (List.mem_of_getElem? e1) (z ▸ hB)
    cases k with
    | lst ds => obtain ⟨zs, h1, h2⟩ := r; exact ⟨zs, (upd_ne ne).trans h1, h2.putBG hB hp g1 g2⟩
    | dic t kvs => obtain ⟨ob, zs, h1, h3, h2⟩ := r; exact ⟨ob, zs, (upd_ne ne).trans h1, h3, h2.putBG hB hp g1 g2⟩
    | obj C fs => obtain ⟨Ca, dx, vs, h0, h1, h2⟩ := r; exact ⟨Ca, dx, vs, h0, (upd_ne ne).trans h1, h2.putBG hB hp g1 g2⟩
  · by_cases e : a = p
    · exact ⟨_, by rw [e]; exact upd_same⟩
    · obtain ⟨u, q⟩ := s.bt a hb
      exact ⟨u, (upd_ne e).trans q⟩
theorem EnvR.putBG {c : RC} {p : Addr} {o o' : HO} (hB : c.B p) (hp : c.H p = some o) (g1 : ∀ xs, o ≠ .tup xs) (g2 : ∀ a b, o ≠ .frz a b) {ε : Ev} {σ : L2.St} (r : EnvR c ε σ) : EnvR (c.put p o') ε σ := ⟨r.len, fun i d e => let ⟨v, h1, h2⟩ := r.at_ i d e; ⟨v, h1, h2.putBG hB hp g1 g2⟩⟩
theorem EnvR.moreG {c : RC} {p : Addr} {o : HO} (hp : c.H p = none) {ε : Ev} {σ : L2.St} (r : EnvR c ε σ) : EnvR { c with B := fun a => c.B a ∨ a = p, H := upd c.H p o } ε σ := ⟨r.len, fun i d e => let ⟨v, h1, h2⟩ := r.at_ i d e; ⟨v, h1, h2.moreG hp⟩⟩


/-! ## dicts -/
def keyD (d : D) : Option Key := match d with
  | .int i => some (.inl i)
  | .str z => some (.inr (toS z))
  | _ => none
theorem keyD_ok {c : RC} {d : D} {v : V} {k : Key} (r : Rep c d v) (e : keyD d = some k) : v = kV k := by
  cases r with
  | int i => cases e; rfl
  | str z => cases e; rfl
  | _ => cases e
def keysD : List D → Option (List Key)
  | [] => some []
  | d :: ds => match keyD d, keysD ds with
    | some k, some ks => some (k :: ks)
    | _, _ => none
theorem keysD_ok {c : RC} : ∀ {ds : List D} {vs : List V} {ks : List Key}, Reps c ds vs → keysD ds = some ks → vs = ks.map kV
  | _, _, _, .nil, e => by cases e; rfl
  | d :: ds, _, ks, .cons r t, e => by
    unfold keysD at e
    cases q1 : keyD d with
    | none => rw [q1] at e; cases e
    | some k =>
      cases q2 : keysD ds with
      | none => rw [q1, q2] at e; cases e
      | some ks' => rw [q1, q2] at e; cases e; rw [keyD_ok r q1, keysD_ok t q2]; rfl
/-- the key of a look-up in a dict of that form -/
def keyT (t : Bool) (d : D) : Option (List Key) := match t with
  | false => (keyD d).map fun k => [k]
  | true => match d with
    | .tup ds => keysD ds
    | _ => none
def lkK (k : List Key) : List (List Key × D) → Option D
  | [] => none
  | p :: r => if p.1 = k then some p.2 else lkK k r
theorem lookP {c : RC} {k : List Key} : ∀ {kvs : List (List Key × D)} {zs : List (List Key × V)}, RepP c kvs zs → ∀ {d : D}, lkK k kvs = some d → ∃ v, valV zs k = some v ∧ Rep c d v
  | _, _, .nil, d, e => by cases e
  | _, _, .cons (f := g) h t, d, e => by
    unfold lkK at e
    dsimp only at e
    by_cases q : g = k
    · rw [if_pos q] at e
      cases e
      exact ⟨_, valV_pos q, h⟩
    · rw [if_neg q] at e
      rw [valV_neg q]
      exact lookP t e
theorem lookPN {c : RC} {k : List Key} : ∀ {kvs : List (List Key × D)} {zs : List (List Key × V)}, RepP c kvs zs → lkK k kvs = none → valV zs k = none
  | _, _, .nil, e => valV_nil
  | _, _, .cons (f := g) h t, e => by
    unfold lkK at e
    dsimp only at e
    by_cases q : g = k
    · rw [if_pos q] at e; cases e
    · rw [if_neg q] at e
      rw [valV_neg q]
      exact lookPN t e
theorem valV_one (k : Key) : ∀ zs : List (Key × V), valV (zs.map fun p => ([p.1], p.2)) [k] = valV zs k
  | [] => by rw [List.map_nil, valV_nil, valV_nil]
  | p :: zs => by
    rw [List.map_cons]
    by_cases q : p.1 = k
    · rw [valV_pos q, valV_pos (p := ([p.1], p.2)) (by rw [q])]
    · rw [valV_neg q, valV_neg (p := ([p.1], p.2)) (by simpa using q), valV_one k zs]
end PD

namespace PD
open PySem PySem.Spec PyProof.Rows L2
/-- a dict whose keys are ints and texts -/
def asDic (h : EH) (d : D) : Option (List (List Key × D)) := match d with
  | .dic false kvs => some kvs
  | .ref n => (match h[n]? with
    | some (.dic false kvs) => some kvs
    | _ => none)
  | _ => none
theorem asDic_ok {c : RC} {h : EH} {d : D} {v : V} {kvs : List (List Key × D)} (s : SR c h) (r : Rep c d v) (e : asDic h d = some kvs) : ∃ (a : Addr) (ys : List (Key × V)), v = .ref a ∧ c.H a = some (.dK ys) ∧ RepP c kvs (ys.map fun p => ([p.1], p.2)) := by
  have fin : ∀ {a : Addr} {o : HO} {zs : List (List Key × V)}, v = .ref a → c.H a = some o → isDic false o zs → RepP c kvs zs → ∃ (a : Addr) (ys : List (Key × V)), v = .ref a ∧ c.H a = some (.dK ys) ∧ RepP c kvs (ys.map fun p => ([p.1], p.2)) := fun {a o zs} h1 h2 h3 h4 => by
    rcases h3 with ⟨_, ys, rfl, rfl⟩ | ⟨z, _⟩
    · exact ⟨a, ys, h1, h2, h4⟩
    · cases z
  cases r with
  | @dic a t o kvs' zs k1 k2 k3 k4 =>
    cases t with
    | false => cases e; exact fin rfl k1 k2 k4
    | true => cases e
  | @ref n a hn =>
    unfold asDic at e
    dsimp only at e
    cases q : h[n]? with
    | none => rw [q] at e; cases e
    | some k =>
      rw [q] at e
      cases k with
      | dic t kvs' =>
        cases t with
        | true => cases e
        | false =>
          cases e
          obtain ⟨o, zs, h1, h3, h2⟩ := s.cells n a _ hn q
          exact fin rfl h1 h3 h2
      | _ => cases e
  | _ => cases e
def dDGet (h : EH) (x y : D) : Option (Option D) := match asDic h x, keyD y with
  | some kvs, some k => some (lkK [k] kvs)
  | _, _ => none
theorem dget_ok {c : RC} {h : EH} {x y : D} {v u : V} {r : Option D} (s : SR c h) (rx : Rep c x v) (ry : Rep c y u) (e : dDGet h x y = some r) :
    ∃ a o, v = .ref a ∧ IsD c.H a ∧ DGet c.H a u o ∧ (∀ d, r = some d → ∃ w, o = some w ∧ Rep c d w) ∧ (r = none → o = none) := by
  unfold dDGet at e
  cases q1 : asDic h x with
  | none => rw [q1] at e; cases e
  | some kvs =>
    cases q2 : keyD y with
    | none => rw [q1, q2] at e; cases e
    | some k =>
      rw [q1, q2] at e
      cases e
      obtain ⟨a, ys, rfl, h1, h2⟩ := asDic_ok s rx q1
      have hk := keyD_ok ry q2
      subst hk
      refine ⟨a, valV ys k, rfl, .inl ⟨ys, .inl h1⟩, .k h1, fun d e => ?_, fun e => ?_⟩
      · obtain ⟨w, e1, e2⟩ := lookP h2 e
        rw [valV_one] at e1
        exact ⟨w, e1, e2⟩
      · have := lookPN h2 e
        rwa [valV_one] at this
def dDIx (h : EH) (x y : D) : Option D := (dDGet h x y).bind id
def dDIn (neg : Bool) (h : EH) (y x : D) : Option D := (dDGet h x y).map fun r => .bl (neg != r.isSome)
def dget2K (x : D) (y : D) (z : D) (h : EH) : O D := rt ((dDGet h x y).map fun r => r.getD z) h
def mDGet2 (a b e : M D) : M D := fun ε h => bR (a ε h) fun x h1 => match asDic h1 x with
  | some _ => bR (b ε h1) fun y h2 => bR (e ε h2) fun z h3 => dget2K x y z h3
  | none => none
section
variable {X : Cx} {W : WX} {a b : Expr} {ma mb : M D} {pos : Pos} {k : Nat}
theorem re_dix (hr : Room k X.A) (ha : RE X W a ma) (hb : RE X W b mb) (hs : NoSl b := by exact fun _ _ => rfl) : RE X W (.Subscript a b pos) (mBin dDIx ma mb) := by
  refine pe_imp (pe_dget (by have := hr.units; omega) ha hb hs) fun σ H Q h => ?_
  obtain ⟨c, ε, h, r', h', hK, hm, rfl, sr, er, e, px, go⟩ := h
  unfold tDGet
  refine tX.bind hK hm sr er e px fun dx h1 c1 x e1 l1 s1 r1 => ?_
  refine tX.bind (l1.K.trans hK) (l1.mg.trans hm) s1 (er.le l1) e1 (px.le l1) fun dy h2 c2 y e2 l2 s2 r2 => ?_
  unfold dDIx at e2
  cases q : dDGet h2 dx dy with
  | none => rw [q] at e2; cases e2
  | some r =>
    rw [q] at e2
    cases r with
    | none => cases e2
    | some d =>
      cases e2
      obtain ⟨a, o, rfl, _, g1, g2, _⟩ := dget_ok s2 (r1.le l2) r2 q
      obtain ⟨w, rfl, rw'⟩ := g2 d rfl
      exact ⟨a, w, rfl, g1, go d rfl c2 w (l1.trans l2) s2 rw'⟩
theorem din_of {ma mb : M D} {σ : L2.St} {H : Hp} {Q : VK} (h : tE X.K X.mg W (mBin (dDIn false) ma mb) σ H Q) : tDIn (tE X.K X.mg W ma) (tE X.K X.mg W mb) σ H Q := by
  obtain ⟨c, ε, h, r', h', hK, hm, rfl, sr, er, e, px, go⟩ := h
  unfold tDIn
  refine tX.bind hK hm sr er e px fun dx h1 c1 x e1 l1 s1 r1 => ?_
  refine tX.bind (l1.K.trans hK) (l1.mg.trans hm) s1 (er.le l1) e1 (px.le l1) fun dy h2 c2 y e2 l2 s2 r2 => ?_
  unfold dDIn at e2
  cases q : dDGet h2 dy dx with
  | none => rw [q] at e2; cases e2
  | some r =>
    rw [q] at e2
    cases e2
    obtain ⟨a, o, rfl, _, g1, g2, g3⟩ := dget_ok s2 r2 (r1.le l2) q
    have eo : o.isSome = r.isSome := by
      cases r with
      | none => rw [g3 rfl]; rfl
      | some d => obtain ⟨w, e, _⟩ := g2 d rfl; rw [e]; rfl
    refine ⟨a, o, rfl, g1, ?_⟩
    rw [eo]
    refine go _ rfl c2 _ (l1.trans l2) s2 ?_
    show Rep c2 (.bl (false != r.isSome)) _
    rw [Bool.false_bne]
    exact .bl _
theorem dnin_of {ma mb : M D} {σ : L2.St} {H : Hp} {Q : VK} (h : tE X.K X.mg W (mBin (dDIn true) ma mb) σ H Q) : tDNotIn (tE X.K X.mg W ma) (tE X.K X.mg W mb) σ H Q := by
  obtain ⟨c, ε, h, r', h', hK, hm, rfl, sr, er, e, px, go⟩ := h
  unfold tDNotIn
  refine tX.bind hK hm sr er e px fun dx h1 c1 x e1 l1 s1 r1 => ?_
  refine tX.bind (l1.K.trans hK) (l1.mg.trans hm) s1 (er.le l1) e1 (px.le l1) fun dy h2 c2 y e2 l2 s2 r2 => ?_
  unfold dDIn at e2
  cases q : dDGet h2 dy dx with
  | none => rw [q] at e2; cases e2
  | some r =>
    rw [q] at e2
    cases e2
    obtain ⟨a, o, rfl, _, g1, g2, g3⟩ := dget_ok s2 r2 (r1.le l2) q
    have eo : o.isSome = r.isSome := by
      cases r with
      | none => rw [g3 rfl]; rfl
      | some d => obtain ⟨w, e, _⟩ := g2 d rfl; rw [e]; rfl
    refine ⟨a, o, rfl, g1, ?_⟩
    rw [eo]
    refine go _ rfl c2 _ (l1.trans l2) s2 ?_
    show Rep c2 (.bl (true != r.isSome)) _
    rw [Bool.true_bne]
    exact .bl _
theorem re_din (hr : Room k X.A) (ha : RE X W a ma) (hb : RE X W b mb) (hmk : behindInMarks .In b = false := by first | exact nobehind _ (by decide) (by decide) | rfl) : RE X W (.Compare a [.In] [b] pos) (mBin (dDIn false) ma mb) :=
  pe_imp (pe_cmp (pc_din (by have := hr.units; omega) ha hb) hmk) fun _ _ _ h => din_of h
theorem re_dnin (hr : Room k X.A) (ha : RE X W a ma) (hb : RE X W b mb) (hmk : behindInMarks .NotIn b = false := by first | exact nobehind _ (by decide) (by decide) | rfl) : RE X W (.Compare a [.NotIn] [b] pos) (mBin (dDIn true) ma mb) :=
  pe_imp (pe_cmp (pc_dnotin (by have := hr.units; omega) ha hb) hmk) fun _ _ _ h => dnin_of h
theorem rt_din (hr : Room k X.A) (ha : RE X W a ma) (hb : RE X W b mb) (hmk : behindInMarks .In b = false := by first | exact nobehind _ (by decide) (by decide) | rfl) : RT X W (.Compare a [.In] [b] pos) (mTst (mBin (dDIn false) ma mb)) :=
  pt_imp (pt_cmp (pc_din (by have := hr.units; omega) ha hb) hmk) fun _ _ _ h => din_of (tB_of h)
theorem rt_dnin (hr : Room k X.A) (ha : RE X W a ma) (hb : RE X W b mb) (hmk : behindInMarks .NotIn b = false := by first | exact nobehind _ (by decide) (by decide) | rfl) : RT X W (.Compare a [.NotIn] [b] pos) (mTst (mBin (dDIn true) ma mb)) :=
  pt_imp (pt_cmp (pc_dnotin (by have := hr.units; omega) ha hb) hmk) fun _ _ _ h => dnin_of (tB_of h)
theorem re_dget2 {o e f : Expr} {mo me mf : M D} {apos cpos : Pos} (hr : Room k X.A) (ho : RE X W o mo) (he : RE X W e me) (hf : RE X W f mf) (m : M2 X o "get" apos e f cpos := by exact ⟨rfl, rfl, rfl, rfl⟩) : RE X W (.Call (.Attribute o "get" apos) [e, f] [] cpos) (mDGet2 mo me mf) := by
  refine pe_imp (pe_dget2 (by have := hr.units; omega) ho he hf m) fun σ H Q h => ?_
  obtain ⟨c, ε, h, r', h', hK, hm, rfl, sr, er, e, px, go⟩ := h
  unfold tDGet2
  refine tX.bind hK hm sr er e px fun dx h1 c1 x e1 l1 s1 r1 => ?_
  cases q0 : asDic h1 dx with
  | none => rw [q0] at e1; cases e1
  | some kvs =>
    rw [q0] at e1
    obtain ⟨a, ys, rfl, k1, k2⟩ := asDic_ok s1 r1 q0
    refine ⟨a, rfl, .inl ⟨ys, .inl k1⟩, ?_⟩
    refine tX.bind (l1.K.trans hK) (l1.mg.trans hm) s1 (er.le l1) e1 (px.le l1) fun dy h2 c2 y e2 l2 s2 r2 => ?_
    refine tX.bind (l2.K.trans (l1.K.trans hK)) (l2.mg.trans (l1.mg.trans hm)) s2 ((er.le l1).le l2) e2 ((px.le l1).le l2) fun dz h3 c3 z e3 l3 s3 r3 => ?_
    unfold dget2K at e3
    cases q : dDGet h3 dx dy with
    | none => rw [q] at e3; cases e3
    | some r =>
      rw [q] at e3
      cases e3
      obtain ⟨a', o, ea, _, g1, g2, g3⟩ := dget_ok s3 ((r1.le l2).le l3) (r2.le l3) q
      cases ea
      refine ⟨o, g1, ?_⟩
      have L := (l1.trans l2).trans l3
      cases r with
      | none => rw [g3 rfl]; exact go _ rfl c3 _ L s3 r3
      | some d => obtain ⟨w, e, rw'⟩ := g2 d rfl; rw [e]; exact go _ rfl c3 _ L s3 rw'
end
end PD

namespace PD
open PySem PySem.Spec PyProof.Rows L2
/-! ## displays of dicts -/
inductive RepPr (c : RC) : List (D × D) → List (V × V) → Prop
  | nil : RepPr c [] []
  | cons {k d : D} {ds : List (D × D)} {x v : V} {vs : List (V × V)} : Rep c k x → Rep c d v → RepPr c ds vs → RepPr c ((k, d) :: ds) ((x, v) :: vs)
theorem RepPr.le {c c' : RC} (l : c.Le c') : ∀ {ds : List (D × D)} {vs : List (V × V)}, RepPr c ds vs → RepPr c' ds vs
  | _, _, .nil => .nil
  | _, _, .cons h1 h2 t => .cons (h1.le l) (h2.le l) (t.le l)
def mPairs : List (M D × M D) → M (List (D × D))
  | [] => fun _ h => some (.ok [], h)
  | p :: r => fun ε h => bR (p.1 ε h) fun x h1 => bR (p.2 ε h1) fun y h2 => bR (mPairs r ε h2) fun ps h3 => some (.ok ((x, y) :: ps), h3)
theorem pairs_of {K : PySem.W.Frag} {mg : Str → Option Value} {W : WX} {σ : L2.St} : ∀ (ps : List (M D × M D)) {H : Hp} {Q : List (V × V) → Hp → Prop}, tX RepPr K mg W (mPairs ps) σ H Q → tPairs (ps.map fun p => (tE K mg W p.1, tE K mg W p.2)) σ H Q
  | [], H, Q, h => by
    obtain ⟨c, ε, h, r', h', hK, hm, rfl, sr, er, e, px, go⟩ := h
    cases e
    exact go _ rfl c _ (.refl c) sr .nil
  | p :: r, H, Q, h => by
    obtain ⟨c, ε, h, r', h', hK, hm, rfl, sr, er, e, px, go⟩ := h
    rw [List.map_cons]
    unfold tPairs
    refine tX.bind hK hm sr er e px fun x h1 c1 v e1 l1 s1 r1 => ?_
    refine tX.bind (l1.K.trans hK) (l1.mg.trans hm) s1 (er.le l1) e1 (px.le l1) fun y h2 c2 u e2 l2 s2 r2 => ?_
    refine pairs_of r ?_
    refine tX.bind (l2.K.trans (l1.K.trans hK)) (l2.mg.trans (l1.mg.trans hm)) s2 ((er.le l1).le l2) e2 ((px.le l1).le l2) fun qs h3 c3 zs e3 l3 s3 r3 => ?_
    cases e3
    exact go _ rfl c3 _ ((l1.trans l2).trans l3) s3 (.cons ((r1.le l2).le l3) (r2.le l3) r3)
inductive RPs (X : Cx) (W : WX) : List (Option Expr) → List Expr → List (M D × M D) → Prop
  | nil : RPs X W [] [] []
  | cons {k v : Expr} {ks : List (Option Expr)} {vs : List Expr} {mk mv : M D} {r : List (M D × M D)} : RE X W k mk → RE X W v mv → RPs X W ks vs r → RPs X W (some k :: ks) (v :: vs) ((mk, mv) :: r)
theorem RPs.pps {X : Cx} {W : WX} {pos : Pos} {ks : List (Option Expr)} {vs : List Expr} {r : List (M D × M D)} (h : RPs X W ks vs r) : PPs X pos ks vs (r.map fun p => (tE X.K X.mg W p.1, tE X.K X.mg W p.2)) := by
  induction h with
  | nil => exact pps_nil
  | cons h1 h2 _ ih => exact pps_cons h1 h2 ih
def putKD (k : List Key) (d : D) (kvs : List (List Key × D)) : List (List Key × D) := if (kvs.any fun p => decide (p.1 = k)) = true then kvs.map (fun p => if p.1 = k then (p.1, d) else p) else kvs ++ [(k, d)]
theorem repP_keys {c : RC} {k : List Key} : ∀ {kvs : List (List Key × D)} {zs : List (List Key × V)}, RepP c kvs zs → (kvs.any fun p => decide (p.1 = k)) = (zs.any fun p => decide (p.1 = k))
  | _, _, .nil => rfl
  | _, _, .cons _ t => by rw [List.any_cons, List.any_cons, repP_keys t]
theorem repP_map {c : RC} {k : List Key} {d : D} {v : V} (r : Rep c d v) : ∀ {kvs : List (List Key × D)} {zs : List (List Key × V)}, RepP c kvs zs → RepP c (kvs.map fun p => if p.1 = k then (p.1, d) else p) (zs.map fun p => if p.1 = k then (p.1, v) else p)
  | _, _, .nil => .nil
  | _, _, .cons (f := g) h t => by
    rw [List.map_cons, List.map_cons]
    by_cases q : g = k
    · rw [if_pos q, if_pos q]; exact .cons r (repP_map r t)
    · rw [if_neg q, if_neg q]; exact .cons h (repP_map r t)
theorem repP_app {c : RC} {k : List Key} {d : D} {v : V} (r : Rep c d v) : ∀ {kvs : List (List Key × D)} {zs : List (List Key × V)}, RepP c kvs zs → RepP c (kvs ++ [(k, d)]) (zs ++ [(k, v)])
  | _, _, .nil => .cons r .nil
  | _, _, .cons h t => .cons h (repP_app r t)
theorem putK_rep {c : RC} {k : List Key} {d : D} {v : V} (r : Rep c d v) {kvs : List (List Key × D)} {zs : List (List Key × V)} (h : RepP c kvs zs) : RepP c (putKD k d kvs) (putK zs k v) := by
  unfold putKD putK
  rw [repP_keys h]
  split
  · exact repP_map r h
  · exact repP_app r h
theorem putK_one (k : Key) (v : V) (ys : List (Key × V)) : putK (ys.map fun p => ([p.1], p.2)) [k] v = (putK ys k v).map fun p => ([p.1], p.2) := by
  unfold putK
  have e1 : ((ys.map fun p => (([p.1] : List Key), p.2)).any fun kv => decide (kv.1 = [k])) = ys.any fun kv => decide (kv.1 = k) := by
    rw [List.any_map]
    congr 1
    funext p
    simp
  rw [e1]
  split
  · rw [List.map_map, List.map_map]
    refine List.map_congr_left fun p _ => ?_
    show (if [p.1] = [k] then ([p.1], v) else ([p.1], p.2)) = _
    by_cases q : p.1 = k
    · rw [if_pos (by rw [q])]
      simp [q]
    · rw [if_neg (by simpa using q)]
      simp [q]
  · simp
/-- the pairs, from the left -/
def mergeD : List (D × D) → List (List Key × D) → Option (List (List Key × D))
  | [], acc => some acc
  | p :: r, acc => match keyD p.1 with
    | some k => mergeD r (putKD [k] p.2 acc)
    | none => none
theorem merge_ok {c : RC} : ∀ {ps : List (D × D)} {vs : List (V × V)} {acc out : List (List Key × D)} {ys : List (Key × V)}, RepPr c ps vs → RepP c acc (ys.map fun p => ([p.1], p.2)) → mergeD ps acc = some out →
    ∃ kvs : List (Key × V), vs = kvs.map (fun kv => (kV kv.1, kv.2)) ∧ RepP c out ((mergeK ys kvs).map fun p => ([p.1], p.2))
  | _, _, acc, out, ys, .nil, h, e => by cases e; exact ⟨[], rfl, h⟩
  | (dk, d) :: ps, _, acc, out, ys, .cons (x := x) (v := v) r1 r2 t, h, e => by
    unfold mergeD at e
    cases q : keyD dk with
    | none => rw [q] at e; cases e
    | some k =>
      rw [q] at e
      have hk := keyD_ok r1 q
      have h2 : RepP c (putKD [k] d acc) ((putK ys k v).map fun p => ([p.1], p.2)) := by
        rw [← putK_one]
        exact putK_rep r2 h
      obtain ⟨kvs, e1, e2⟩ := merge_ok t h2 e
      exact ⟨(k, v) :: kvs, by rw [e1, hk]; rfl, e2⟩
theorem RepPr.len {c : RC} : ∀ {ds : List (D × D)} {vs : List (V × V)}, RepPr c ds vs → ds.length = vs.length
  | _, _, .nil => rfl
  | _, _, .cons _ _ t => by rw [List.length_cons, List.length_cons, t.len]
def dispK (ps : List (D × D)) (h : EH) : O D := if ps.length ≤ 15 then rt ((mergeD ps []).map fun kvs => .dic false kvs) h else none
def mDisp (ps : List (M D × M D)) : M D := fun ε h => bR (mPairs ps ε h) dispK
section
variable {X : Cx} {W : WX}
theorem RepP.fewer' {c : RC} {B : Addr → Prop} (hB : ∀ a, B a → c.B a) {ds : List (List Key × D)} {vs : List (List Key × V)} (h : RepP c ds vs) : RepP (c.av B) ds vs := RepP.fewer hB h
theorem re_disp {keys : List (Option Expr)} {values : List Expr} {ps : List (M D × M D)} {pos : Pos} (h : RPs X W keys values ps) (hall : keys.all (·.isSome) = true := by rfl) (hl : keys.length = values.length := by rfl) (h0 : keys ≠ [] := by simp) (h15 : keys.length ≤ 15 := by decide) :
    RE X W (.Dict keys values pos) (mDisp ps) := by
  refine pe_imp (pe_disp h.pps hall hl h0 h15) fun σ H Q h => ?_
  obtain ⟨c, ε, h, r', h', hK, hm, rfl, sr, er, e, px, go⟩ := h
  unfold tDisp
  intro p hp
  obtain ⟨o1, s1⟩ := Over.startG (o := .dK []) sr hp
  refine pairs_of ps ?_
  have e' : bR (mPairs ps ε h) dispK = some (r', h') := e
  have er1 : EnvR { c with B := fun a => c.B a ∨ a = p, H := upd c.H p (.dK []) } ε σ := EnvR.moreG hp er
  refine tX.bind (c := { c with B := fun a => c.B a ∨ a = p, H := upd c.H p (.dK []) }) hK hm s1 er1 e' (fun x ex c' cls dx l s xr => ?_) fun qs h2 c2 vs e2 l2 s2 r2 => ?_
  · -- an exception: back over the dict
    have o2 := o1.step l
    refine px x ex (c'.av c.B) cls dx o2.back (o2.sr s) ?_
    obtain ⟨Ca, d, us, g1, g2, g3, g4, g5, g6⟩ := xr
    exact ⟨Ca, d, us, g1, g2, g3, g4, ⟨fun z => g5.1 (o2.le.B _ z), g5.2⟩, RepF.fewer o2.le.B g6⟩
  · have o2 := o1.step l2
    have p2 : c2.H p = some (.dK []) := (l2.keep p _ upd_same (fun _ z => by cases z) fun z => sr.nb p z |> fun k => (by
      obtain ⟨ob, eo⟩ := sr.ex z
      rw [hp] at eo; cases eo)).1
    unfold dispK at e2
    by_cases h15' : qs.length ≤ 15
    · rw [if_pos h15'] at e2
      cases q : mergeD qs [] with
      | none => rw [q] at e2; cases e2
      | some out =>
        rw [q] at e2
        cases e2
        obtain ⟨kvs, rfl, hr⟩ := merge_ok (ys := []) r2 .nil q
        refine ⟨p2, kvs, rfl, by have := r2.len; rw [List.length_map] at this; omega, ?_⟩
        obtain ⟨o3, s3⟩ := o2.putBG (b' := .dK (mergeK [] kvs)) s2 p2 (fun _ z => by cases z) (fun _ _ z => by cases z)
        have hr3 := RepP.putBG (o' := .dK (mergeK [] kvs)) o2.Bp p2 (fun _ z => by cases z) (fun _ _ z => by cases z) hr
        refine go _ rfl ((c2.put p (.dK (mergeK [] kvs))).av c.B) _ o3.back (o3.sr s3) ?_
        refine .dic (o := .dK (mergeK [] kvs)) (zs := (mergeK [] kvs).map fun p => ([p.1], p.2)) upd_same (.inl ⟨rfl, _, rfl, rfl⟩) ⟨fun z => ?_, fun z => s3.nb p z o3.Bp⟩ (RepP.fewer o3.le.B hr3)
        obtain ⟨ob, eo⟩ := sr.bt p z
        rw [hp] at eo; cases eo
    · rw [if_neg h15'] at e2; cases e2
end
end PD

namespace PD
open PySem PySem.Spec PyProof.Rows L2
section
variable {X : Cx} {W : WX}
/-! ### {} as a cell, d[k] = v -/
def mDnew : M D := fun _ h => some (.ok (.ref h.length), h ++ [.dic false []])
theorem re_dnew {pos : Pos} : RE X W (.Dict [] [] pos) mDnew := by
  refine pe_imp pe_dnewK fun σ H Q h => ?_
  obtain ⟨c, ε, h, r', h', hK, hm, rfl, sr, er, e, px, go⟩ := h
  intro p hp
  cases e
  obtain ⟨l2, s2⟩ := sr.cellG (o := .dK []) (k := .dic false []) hp fun c' l e => ⟨_, [], e, .inl ⟨rfl, [], rfl, rfl⟩, .nil⟩
  refine go _ rfl _ _ l2 s2 (.ref ?_)
  show (c.ρ ++ [p])[h.length]? = some p
  rw [← sr.len, List.getElem?_append_right (Nat.le_refl _), Nat.sub_self]
  rfl
def putDc (h : EH) (x y d : D) : Option EH := match x, keyD y with
  | .ref n, some k => (match h[n]? with
    | some (.dic false kvs) => if kvs.length < 16777216 then some (h.set n (.dic false (putKD [k] d kvs))) else none
    | _ => none)
  | _, _ => none
theorem RepP.len {c : RC} : ∀ {ds : List (List Key × D)} {vs : List (List Key × V)}, RepP c ds vs → ds.length = vs.length
  | _, _, .nil => rfl
  | _, _, .cons _ t => by rw [List.length_cons, List.length_cons, RepP.len t]
def msDPut (o i v : M D) : MS := fun ε h => bS (v ε h) ε fun z h1 => bS (o ε h1) ε fun x h2 => bS (i ε h2) ε fun y h3 => (putDc h3 x y z).map fun h4 => (.nx ε, h4)
theorem rs_dput {o i value : Expr} {mo mi mv : M D} {pos pos' : Pos} {k : Nat} (hr : Room k X.A) (ho : RE X W o mo) (hi : RE X W i mi) (hv : RE X W value mv) (hs : swapsWith value (some (.Subscript o i pos')) pos.line X.env = pure false := by rfl) :
    RSt X W (.Assign [.Subscript o i pos'] value pos) (msDPut mo mi mv) := by
  refine ps_imp (ps_dput (by have := hr.units; omega) ho hi hv hs) fun D σ H h => ?_
  obtain ⟨c, ε, h, r, h', hK, hm, rfl, sr, er, e, fin⟩ := h
  unfold sDPut
  refine tX.stm hK hm sr er e fin fun z h1 c1 v e1 l1 s1 r1 => ?_
  refine tX.stm (l1.K.trans hK) (l1.mg.trans hm) s1 (er.le l1) e1 (fin.le l1) fun x h2 c2 u e2 l2 s2 r2 => ?_
  refine tX.stm (l2.K.trans (l1.K.trans hK)) (l2.mg.trans (l1.mg.trans hm)) s2 ((er.le l1).le l2) e2 ((fin.le l1).le l2) fun y h3 c3 w e3 l3 s3 r3 => ?_
  cases q : putDc h3 x y z with
  | none => rw [q] at e3; cases e3
  | some h4 =>
    rw [q] at e3
    cases e3
    have r2' := r2.le l3
    cases r2' with
    | @ref n a hn =>
      unfold putDc at q
      cases qk : keyD y with
      | none => rw [qk] at q; cases q
      | some k =>
        rw [qk] at q
        dsimp only at q
        cases qc : h3[n]? with
        | none => rw [qc] at q; cases q
        | some cl =>
          rw [qc] at q
          cases cl with
          | dic t kvs =>
            cases t with
            | true => cases q
            | false =>
              dsimp only at q
              by_cases hl : kvs.length < 16777216
              · rw [if_pos hl] at q
                cases q
                obtain ⟨ob, zs, k1, k3, k2⟩ := s3.cells n a _ hn qc
                rcases k3 with ⟨_, ys, rfl, rfl⟩ | ⟨ee, _⟩
                · have hk := keyD_ok r3 qk
                  subst hk
                  have rv : Rep c3 z v := (r1.le l2).le l3
                  obtain ⟨l4, s4⟩ := s3.write (o := .dK (putK ys k v)) (k := .dic false (putKD [k] z kvs)) hn (fun xs e => by rcases e with e | ⟨_, e⟩ <;> rw [k1] at e <;> cases e) (fun o u e => by rw [k1] at e; cases e)
                    fun c' l' eh => ⟨_, _, eh, .inl ⟨rfl, _, rfl, rfl⟩, by rw [← putK_one]; exact putK_rep (rv.le l') (k2.le l')⟩
                  have len : ys.length < sizeLine := by
                    have := k2.len
                    rw [List.length_map] at this
                    rw [← this]
                    exact hl
                  exact ⟨a, _, rfl, .k k1 len, fin _ σ (((l1.trans l2).trans l3).trans l4) s4 ((((er.le l1).le l2).le l3).le l4)⟩
                · cases ee
              · rw [if_neg hl] at q; cases q
          | _ => cases q
    | _ => cases q
end
/-! ### the module's dicts: keys are texts -/
def lkS (z : List Nat) : List (List Nat × D) → Option D
  | [] => none
  | p :: r => if p.1 = z then some p.2 else lkS z r
def entB (K : PySem.W.Frag) : List (List Nat × D) → List DictEntry → Bool
  | [], [] => true
  | p :: r, e :: l => (match e.key with
    | .str y _ => decide (y.cps.toList = p.1)
    | _ => false) && (dB K p.2 e.val && entB K r l)
  | _, _ => false
inductive Ent (K : PySem.W.Frag) : List (List Nat × D) → List DictEntry → Prop
  | nil : Ent K [] []
  | cons {z : List Nat} {d : D} {r : List (List Nat × D)} {e : DictEntry} {l : List DictEntry} {t : Tok} {v : V} : e.key = .str (toS z) t → RelV v e.val → (∀ c : RC, c.K = K → Rep c d v) → Ent K r l → Ent K ((z, d) :: r) (e :: l)
theorem entB_ok {K : PySem.W.Frag} : ∀ {r : List (List Nat × D)} {l : List DictEntry}, entB K r l = true → Ent K r l
  | [], [], _ => .nil
  | [], _ :: _, h => by cases h
  | _ :: _, [], h => by cases h
  | p :: r, e :: l, h => by
    unfold entB at h
    obtain ⟨h1, h2⟩ := ba2 h
    obtain ⟨h3, h4⟩ := ba2 h2
    obtain ⟨v, rv, rp⟩ := dB_ok h3
    cases q : e.key with
    | str y t =>
      rw [q] at h1
      have ey : y.cps.toList = p.1 := of_decide_eq_true h1
      exact .cons (t := t) (by rw [q, ← ey]; rfl) rv rp (entB_ok h4)
    | _ => rw [q] at h1; cases h1
theorem ent_find {K : PySem.W.Frag} {z : List Nat} : ∀ {r : List (List Nat × D)} {l : List DictEntry}, Ent K r l → (∀ d, lkS z r = some d → ∃ e v, l.find? (·.key.isStr (toS z)) = some e ∧ RelV v e.val ∧ ∀ c : RC, c.K = K → Rep c d v) ∧ (lkS z r = none → l.find? (·.key.isStr (toS z)) = none)
  | _, _, .nil => ⟨fun d h => (by cases h), fun _ => rfl⟩
  | _, _, .cons (z := y) (t := t) (e := e) (l := l) h1 h2 h3 h4 => by
    have ih := ent_find (z := z) h4
    by_cases q : y = z
    · subst q
      refine ⟨fun d h => ?_, fun h => ?_⟩
      · unfold lkS at h
        rw [if_pos rfl] at h
        cases h
        refine ⟨_, _, ?_, h2, h3⟩
        rw [List.find?_cons, h1]
        simp [Value.isStr]
      · unfold lkS at h
        rw [if_pos rfl] at h
        cases h
    · have nz : ¬ toS y = toS z := fun e => q (by
        have := congrArg (fun s : Str => s.cps.toList) e
        simpa [toS] using this)
      unfold lkS
      dsimp only
      rw [if_neg q]
      have : (e :: l).find? (·.key.isStr (toS z)) = l.find? (·.key.isStr (toS z)) := by
        rw [List.find?_cons, h1]
        have : (Value.str (toS y) t).isStr (toS z) = false := by
          simpa [Value.isStr] using nz
        simp only [this]
      rw [this]
      exact ih
end PD

namespace PD
open PySem PySem.Spec PyProof.Rows L2
/-- the module's name x is a dict of these -/
structure DicC (K : PySem.W.Frag) (w : World) (mg : Str → Option Value) (x : Str) (kvs : List (List Nat × D)) : Prop where
  ex : ∃ (d : Addr) (es : Array DictEntry) (n : Nat), mg x = some (.ref d) ∧ KDict K w d es n ∧ Ent K kvs es.toList
theorem ent_noref {K : PySem.W.Frag} : ∀ {r : List (List Nat × D)} {l : List DictEntry}, Ent K r l → l.any (·.refKey) = false
  | _, _, .nil => rfl
  | _, _, .cons h1 _ _ t => by
    rw [List.any_cons, ent_noref t]
    unfold DictEntry.refKey
    rw [h1]; rfl
theorem nsIn_ent {K : PySem.W.Frag} {w : World} {d : Addr} {es : Array DictEntry} {n : Nat} {kvs : List (List Nat × D)} (D : KDict K w d es n) (E : Ent K kvs es.toList) (z : List Nat) :
    (∀ dv, lkS z kvs = some dv → ∃ u v, PySem.W.nsIn K d (toS z) = some (some u) ∧ RelV v u ∧ ∀ c : RC, c.K = K → Rep c dv v) ∧ (lkS z kvs = none → PySem.W.nsIn K d (toS z) = some none) := by
  have e0 : PySem.W.nsIn K d (toS z) = (match es.toList.find? (·.key.isStr (toS z)) with
      | some e => some (some e.val)
      | none => if es.toList.any (·.refKey) then none else some none) := by
    unfold PySem.W.nsIn
    rw [D.at_]
    rfl
  obtain ⟨h1, h2⟩ := ent_find (z := z) E
  refine ⟨fun dv h => ?_, fun h => ?_⟩
  · obtain ⟨e, v, g1, g2, g3⟩ := h1 dv h
    rw [e0, g1]
    exact ⟨_, v, rfl, g2, g3⟩
  · rw [e0, h2 h, ent_noref E]
    rfl
def dCIn (neg : Bool) (kvs : List (List Nat × D)) (x : D) : Option D := match x with
  | .str z => some (.bl (neg != (lkS z kvs).isSome))
  | _ => none
def dCIx (kvs : List (List Nat × D)) (x : D) : Option D := match x with
  | .str z => lkS z kvs
  | _ => none
def mC1 (f : D → Option D) (a : M D) : M D := fun ε h => bR (a ε h) fun x h1 => rt (f x) h1
section
variable {X : Cx} {W : WX} {a : Expr} {ma : M D} {x : Str} {p pos : Pos} {kvs : List (List Nat × D)}
theorem cin_of {d : Addr} {es : Array DictEntry} {n : Nat} (Dd : KDict X.K X.w d es n) (E : Ent X.K kvs es.toList) {σ : L2.St} {H : Hp} {Q : VK} (h : tE X.K X.mg W (mC1 (dCIn false kvs) ma) σ H Q) :
    tOp (fun x y H Q => ∃ (z : Str) (r : Option Value), x = .str z ∧ y = .ref d ∧ PySem.W.nsIn X.K d z = some r ∧ Q (.bl r.isSome) H) (tE X.K X.mg W ma) (tC (.ref d)) σ H Q := by
  obtain ⟨c, ε, h, r', h', hK, hm, rfl, sr, er, e, px, go⟩ := h
  unfold tOp tC
  refine tX.bind hK hm sr er e px fun dx h1 c1 x e1 l1 s1 r1 => ?_
  cases r1 with
  | str z =>
    cases e1
    obtain ⟨g1, g2⟩ := nsIn_ent Dd E z
    cases q : lkS z kvs with
    | none => exact ⟨_, none, rfl, rfl, g2 q, by have := go _ rfl c1 (.bl false) l1 s1 (by rw [q]; exact .bl false); exact this⟩
    | some dv =>
      obtain ⟨u, v, k1, k2, k3⟩ := g1 dv q
      exact ⟨_, some u, rfl, rfl, k1, by have := go _ rfl c1 (.bl true) l1 s1 (by rw [q]; exact .bl true); exact this⟩
  | _ => cases e1
theorem re_cin (G : DicC X.K X.w X.mg x kvs) (ha : RE X W a ma) (hg : Gl X x := by rfl) (hd : (x == ("__debug__" : Str)) = false := by decide) : RE X W (.Compare a [.In] [.Name x p] pos) (mC1 (dCIn false kvs) ma) := by
  obtain ⟨d, es, n, h1, h2, h3⟩ := G.ex
  exact pe_imp (pe_cmpR (op_in_kd h2) ha (pe_glob (v := .ref d) hg h1 rfl hd) rfl) fun _ _ _ h => cin_of h2 h3 h
theorem rt_cin (G : DicC X.K X.w X.mg x kvs) (ha : RE X W a ma) (hg : Gl X x := by rfl) (hd : (x == ("__debug__" : Str)) = false := by decide) : RT X W (.Compare a [.In] [.Name x p] pos) (mTst (mC1 (dCIn false kvs) ma)) := by
  obtain ⟨d, es, n, h1, h2, h3⟩ := G.ex
  exact pt_imp (pt_cmpR (op_in_kd h2) ha (pe_glob (v := .ref d) hg h1 rfl hd) rfl) fun _ _ _ h => cin_of h2 h3 (tB_of h)
/-- x[k]: the key behind the dict -/
theorem re_cix (G : DicC X.K X.w X.mg x kvs) (ha : RE X W a ma) (hg : Gl X x := by rfl) (hd : (x == ("__debug__" : Str)) = false := by decide) (hs : PlainIx a := by exact fun _ _ => rfl) : RE X W (.Subscript (.Name x p) a pos) (mC1 (dCIx kvs) ma) := by
  obtain ⟨d, es, n, h1, h2, h3⟩ := G.ex
  refine pe_imp (pe_ix ix_kdict (pe_glob (v := .ref d) hg h1 rfl hd) ha hs) fun σ H Q h => ?_
  obtain ⟨c, ε, h, r', h', hK, hm, rfl, sr, er, e, px, go⟩ := h
  unfold tOp tC
  refine tX.bind hK hm sr er e px fun dx h1' c1 x e1 l1 s1 r1 => ?_
  cases r1 with
  | str z =>
    have e1' : rt (lkS z kvs) h1' = some (r', h') := e1
    obtain ⟨g1, _⟩ := nsIn_ent h2 h3 z
    cases q : lkS z kvs with
    | none => rw [q] at e1'; cases e1'
    | some dv =>
      rw [q] at e1'
      cases e1'
      obtain ⟨u, v, k1, k2, k3⟩ := g1 dv q
      exact ⟨d, _, v, rfl, rfl, ⟨es, n, u, h2.at_, h2.lit, k1, k2⟩, go _ rfl c1 v l1 s1 (k3 c1 (l1.K.trans hK))⟩
  | _ => cases e1
end
/-! ### the Hook with dicts -/
def dicB (K : PySem.W.Frag) (x : Str) (kvs : List (List Nat × D)) : Bool := match PySem.W.nsIn K mainGlobals x with
  | some (some (.ref d)) => (match K.lookup d with
    | some ⟨_, _, .dict es _, _⟩ => entB K kvs es.toList
    | _ => false)
  | _ => false
abbrev DicD : Type := Str × List (List Nat × D)
abbrev AlG2 : Type := AlG × (Bool × List (Option (List (Option (Str × Int)))))
def obsG2 (fa : List He.Fa) (fn : List He.DefD) (gs : List (Str × D)) (ds : List DicD) (K : PySem.W.Frag) : AlG2 := (obsG fa fn gs K, ds.all (fun p => dicB K p.1 p.2), ds.map fun p => He.dicW K (He.ga K p.1))
def valG2 (fn : List He.DefD) (ds : List DicD) (w : World) : AlG2 := (valG fn, true, ds.map fun p => some (He.keysIn w.params (p.2.map fun q => toS q.1)))
def SaysG2 (fa : List He.Fa) (fn : List He.DefD) (gs : List (Str × D)) (ds : List DicD) (w : World) (K : PySem.W.Frag) : Prop := obsG2 fa fn gs ds K = valG2 fn ds w
def obsGG2 (n : Nat) (fa : List He.Fa) (fn : List He.DefD) (gs : List (Str × D)) (ds : List DicD) (g : Addr → Option Obj) : AlG2 := obsG2 fa fn gs ds (He.frG g (He.asD g n))
def hookG2 (n : Nat) (fa : List He.Fa) (fn : List He.DefD) (gs : List (Str × D)) (ds : List DicD) : PySem.W.Hook where
  α := AlG2
  obs := fun s => obsGG2 n fa fn gs ds s.heap.get?
  val := fun w => valG2 fn ds w
  says := fun w h => ∃ K : PySem.W.Frag, K.In h ∧ SaysG2 fa fn gs ds w K
  of := fun _ _ e => ⟨_, He.frG_in, e⟩
  keeps := fun _ _ _ ⟨K, hK, c⟩ k => ⟨K, PySem.W.Frag.In.keeps hK k, c⟩
theorem obsGG2_eq {n : Nat} {fa : List He.Fa} {fn : List He.DefD} {gs : List (Str × D)} {ds : List DicD} {g : Addr → Option Obj} {s : Shared} (h : ∀ a, g a = s.heap.get? a) : obsGG2 n fa fn gs ds g = (hookG2 n fa fn gs ds).obs s := by
  have e : g = s.heap.get? := funext h
  rw [e] <;> rfl
theorem SaysG2.g {fa : List He.Fa} {fn : List He.DefD} {gs : List (Str × D)} {ds : List DicD} {w : World} {K : PySem.W.Frag} (c : SaysG2 fa fn gs ds w K) : SaysG fa fn gs K := congrArg (fun z : AlG2 => z.1) c
theorem SaysG2.dic {fa : List He.Fa} {fn : List He.DefD} {gs : List (Str × D)} {ds : List DicD} {w : World} {K : PySem.W.Frag} {h : Heap} {mg : Str → Option Value} (X : K.In h) (G : h.Ns mainGlobals mg) (c : SaysG2 fa fn gs ds w K) {p : DicD} (hp : p ∈ ds) : DicC K w mg p.1 p.2 := by
  have c1 : (ds.all fun p => dicB K p.1 p.2) = true := congrArg (fun z : AlG2 => z.2.1) c
  have c2 : (ds.map fun p => He.dicW K (He.ga K p.1)) = ds.map fun p => some (He.keysIn w.params (p.2.map fun q => toS q.1)) := congrArg (fun z : AlG2 => z.2.2) c
  have b := List.all_eq_true.mp c1 p hp
  have t : He.dicW K (He.ga K p.1) = some (He.keysIn w.params (p.2.map fun q => toS q.1)) := List.map_inj_left.mp c2 p hp
  obtain ⟨es, n, kd⟩ := He.dicW_ok t
  unfold dicB at b
  cases q : PySem.W.nsIn K mainGlobals p.1 with
  | none => rw [q] at b; cases b
  | some u =>
    cases u with
    | none => rw [q] at b; cases b
    | some u =>
      cases u with
      | ref d =>
        rw [q] at b
        have eg : He.ga K p.1 = d := by
          unfold He.ga
          rw [q]
        rw [eg] at kd
        dsimp only at b
        rw [kd.at_] at b
        exact ⟨d, es, n, PySem.W.mg_of X G q, kd, entB_ok b⟩
      | _ => rw [q] at b; cases b
end PD

namespace PD
open PySem PySem.Spec PyProof.Rows L2
/-! ### list(D.items()) of a module dict -/
def strK (z : List Nat) : Key := Sum.inr (toS z)
theorem ent_keys {K : PySem.W.Frag} : ∀ {r : List (List Nat × D)} {l : List DictEntry}, Ent K r l → ∃ (ys : List (Key × V)) (vs : List (Key × Value)), KV ys vs ∧ ys.map (·.1) = r.map (fun p => strK p.1) ∧
    (∀ (prog : Program) (w : World), PySem.Pairs (mixKind prog w) l vs) ∧ (∀ c : RC, c.K = K → Paired (fun (p : List Nat × D) (q : Key × V) => q.1 = strK p.1 ∧ Rep c p.2 q.2) r ys) ∧ vs.map (·.1) = r.map (fun p => strK p.1)
  | _, _, .nil => ⟨[], [], .nil, rfl, fun _ _ => .nil, fun _ _ => .nil, rfl⟩
  | _, _, .cons (z := z) (t := t) (e := e) (v := v) h1 h2 h3 h4 => by
    obtain ⟨ys, vs, k1, k2, k3, k4, k5⟩ := ent_keys h4
    refine ⟨(strK z, v) :: ys, (strK z, e.val) :: vs, .cons ⟨rfl, h2⟩ k1, ?_, fun prog w => .cons ?_ rfl (k3 prog w), fun c hc => .cons ⟨rfl, h3 c hc⟩ (k4 c hc), ?_⟩
    · rw [List.map_cons, List.map_cons, k2]
    · rw [h1]
      exact keyIs_str (toS z) t
    · rw [List.map_cons, List.map_cons, k5]
theorem ent_hash {K : PySem.W.Frag} {prog : Program} {w : World} {r : List (List Nat × D)} {es : Array DictEntry} (h : Ent K r es.toList) (L : PySem.W.KeysLit w.params es.toList) : PySem.KeysOf (mixKind prog w) es := fun e he => by
  obtain ⟨x, t, e1, e2⟩ := L.all e (Array.mem_toList_iff.mpr he)
  exact ⟨Sum.inr x, by rw [e1]; exact keyIs_str x t, e2⟩
theorem strK_inj {a b : List Nat} (h : strK a = strK b) : a = b := by
  have := Sum.inr.inj h
  have := congrArg (fun s : Str => s.cps.toList) this
  simpa [toS] using this
/-- objects are added, none is touched -/
theorem SR.grow {c : RC} {h : EH} {H' : Hp} (s : SR c h) (k : ∀ b o, c.H b = some o → H' b = some o) : c.Le { c with H := H' } ∧ SR { c with H := H' } h ∧ ∀ p, c.H p = none → RC.fr { c with H := H' } p := by
  have l : c.Le { c with H := H' } := by
    refine ⟨rfl, rfl, fun _ h => h, fun _ h => .inl h, fun a u e => ⟨u, k a u e⟩, fun _ _ h => h, fun a u e _ n => ⟨k a u e, n⟩, fun a xs e => ?_, fun a o u e => k a _ e⟩
    rcases e with e | ⟨u, e⟩
    · exact .inl (k a _ e)
    · exact .inr ⟨u, k a _ e⟩
  refine ⟨l, ⟨s.len, s.nd, fun n a q e1 e2 => ?_, s.nb, fun a b => ?_⟩, fun p hp => ⟨fun b => ?_, fun z => ?_⟩⟩
  · have r := s.cells n a q e1 e2
    obtain ⟨u, e⟩ := r.ex
    exact r.le l ((k a u e).trans e.symm)
  · obtain ⟨u, e⟩ := s.bt a b
    exact ⟨u, k a u e⟩
  · obtain ⟨u, e⟩ := s.bt p b
    rw [hp] at e; cases e
  · obtain ⟨o, e⟩ := s.ex z
    rw [hp] at e; cases e
theorem Paired.trans3 {α β γ : Type} {F : α → β → Prop} {G : γ → β → Prop} {T : γ → α → Prop} (k : ∀ a b g, F a b → G g b → T g a) : ∀ {xs : List α} {ys : List β} {zs : List γ}, Paired F xs ys → Paired G zs ys → Paired T zs xs
  | _, _, _, .nil, .nil => .nil
  | _, _, _, .cons h t, .cons g u => .cons (k _ _ _ h g) (Paired.trans3 k t u)
theorem reps_of {α : Type} {c : RC} {f : α → D} : ∀ {r : List α} {ts : List Addr}, Paired (fun (p : α) (t : Addr) => Rep c (f p) (.ref t)) r ts → Reps c (r.map f) (ts.map V.ref)
  | _, _, .nil => .nil
  | _, _, .cons h t => .cons h (reps_of t)
def dItems (kvs : List (List Nat × D)) : D := .lst (kvs.map fun p => .tup [.str p.1, p.2])
section
variable {X : Cx} {W : WX} {x : Str} {p apos cpos pos : Pos} {kvs : List (List Nat × D)}
theorem re_citems (G : DicC X.K X.w X.mg x kvs) (hc : X.calm = true) (hnd : (kvs.map (·.1)).Nodup) (hlen : kvs.length ≤ 16777216) (hgx : Gl X x := by rfl) (hd : (x == ("__debug__" : Str)) = false := by decide) (hg : Gl X "list" := by rfl) (hm : X.mg "list" = none) (hv : bootBuiltins "list" = some (.type "list") := by decide +kernel)
    (hbase : attributeBase (.Name x p) "items" X.env (eval (.Name x p) X.env) = eval (.Name x p) X.env := by rfl) (hline : (apos.endLine == cpos.line) = true := by rfl)
    (hs : starEach [.Call (.Attribute (.Name x p) "items" apos) [] [] cpos] X.env = (false, eval (.Call (.Attribute (.Name x p) "items" apos) [] [] cpos) X.env) :: starEach [] X.env := by rfl) {q : Pos} :
    RE X W (.Call (.Name "list" q) [.Call (.Attribute (.Name x p) "items" apos) [] [] cpos] [] pos) (mC (dItems kvs)) := by
  obtain ⟨d, es, n, h1, h2, h3⟩ := G.ex
  obtain ⟨ys, vs, kv, e1, hP, hR, e2⟩ := ent_keys h3
  have lk : ys.length = kvs.length := by
    have := congrArg List.length e1
    rwa [List.length_map, List.length_map] at this
  have lv : vs.length = ys.length := (Paired.length kv).symm
  have nd : (vs.map (·.1)).Nodup := by
    rw [e2]
    have : (kvs.map fun p => strK p.1) = (kvs.map (·.1)).map strK := by rw [List.map_map]; rfl
    rw [this]
    exact List.Pairwise.map _ (fun a b z e => z (strK_inj e)) hnd
  have hz : ys.length ≤ sizeLine := by rw [lk]; exact hlen
  refine ⟨fun pins s σ H Q I hq => ?_⟩
  obtain ⟨c, ε, h, r', h', hK, hmg, rfl, sr, er, e, px, go⟩ := hq
  cases e
  refine wpAny_Call_Name_kw (ld_blt I hg hm hv ?_)
  refine PyProof.Rows.callWith_type1 ?_ hs rfl
  rw [hs]
  show wpAny _ _ (spliced ((false, eval (.Call (.Attribute (.Name x p) "items" apos) [] [] cpos) X.env) :: backTo pos (starEach [] X.env))) _ _ s
  refine Calls.spliced_cons ?_
  refine wpAny_Call_method (T := "dict") (id := "dict.items") hbase rfl hline F.plainAttrs_dict F.slot_dict_items F.type_dict_items (thn ((pe_glob (v := .ref d) hgx h1 rfl hd).run pins s σ c.H (fun v H1 => v = .ref d ∧ H1 = c.H) I ⟨rfl, rfl⟩) fun u s1 ⟨x1, H1, I1, rx, ex, eH⟩ => ?_)
  subst ex
  subst eH
  obtain rfl : u = Value.ref d := rx
  have hdo : s1.heap.DictOf (mixKind X.prog X.w) d vs := ⟨_, es, n, I1.kIn _ _ h2.at_, ⟨rfl, rfl, rfl⟩, rfl, ent_hash h3 h2.lit, hP X.prog X.w, nd⟩
  obtain ⟨ep, hat⟩ := hdo.dictAt
  have I2 : Inv X pins σ c.H { s1 with heap := s1.heap.push { cls := .type "dict_items", data := .fields #[.ref d] } } := I1.kept (t' := s1.toks) fun b ob q => Heap.get?_push_of_some _ q
  refine ⟨hdo.typeIs, hdo.mapOf.noDict, ?_⟩
  show wpAny _ _ (callWith cpos (.builtin "dict.items") [.ref d] [] []) _ X.xe s1
  refine method_meetsIn F.slot_dict_items F.entry_dict_items rfl (PySem.evalArgs_none ⟨rfl, hdo.typeIs, F.args_dict_items_1 _, _, meets_dict_items (mixKind X.prog X.w) d h2.low, ⟨vs, hdo⟩, ?_⟩)
  refine Calls.spliced_nil ?_
  refine PySem.W.kdx_call (knd := mixKind X.prog X.w) (kvs := vs) (ep := ep) (I1.ok.hd hc) ⟨_, Heap.get?_push_size _ rfl, rfl, rfl⟩ (hat.push _) (by rw [lv]; exact hz) fun h' tk acc cc as hk hS hl hG hacc => ?_
  obtain ⟨H', k1, k2, k3, k4, k5, k6, J⟩ := LiI.items_laid (tk := tk) I2 hz kv hk hS hl hG hacc
  obtain ⟨l2, s2, f2⟩ := sr.grow k1
  refine ⟨.ref _, H', J, rfl, go _ rfl { c with H := H' } _ l2 s2 (.lst k5 (f2 _ k2) (reps_of ?_))⟩
  refine Paired.trans3 (fun t qv pd hf hg => ?_) k6 (hR c hK)
  obtain ⟨g1, g2⟩ := hg
  refine .tup (.inl (.of hf)) (.cons ?_ (.cons (g2.le l2) .nil))
  rw [g1]
  exact .str _
end
end PD

namespace PD
open PySem PySem.Spec PyProof.Rows L2
/-! ### startswith from a place; functions that answer nothing -/
def dStw3 (_ : EH) (z : List Nat) (ds : List D) : Option D := match ds with
  | [.str s, .int i] => some (.bl (Txt.startswith3 (toS z) (toS s) i))
  | _ => none
theorem ms_stw3 {K : PySem.W.Frag} {mg : Str → Option Value} : MtS K mg (fun x xs H Q => ∃ (a b : Str) (i : Int), x = .str a ∧ xs = [.str b, .int i] ∧ Q (.bl (Txt.startswith3 a b i)) H) dStw3 := by
  intro c eh z xs ds d Q hK hm sr rx e go
  cases rx with
  | nil => cases e
  | cons r1 rx =>
    cases r1 with
    | str s =>
      cases rx with
      | nil => cases e
      | cons r2 rx =>
        cases r2 with
        | int i =>
          cases rx with
          | nil => cases e; exact ⟨_, _, _, rfl, rfl, go c _ (.refl c) sr (.bl _)⟩
          | cons r3 rx => cases e
        | _ => cases e
    | _ => cases e
section
variable {X : Cx} {W : WX} {o e e2 : Expr} {mo : M D} {m : M (List D)} {apos pos : Pos}
theorem re_stw3 (ho : RE X W o mo) (ha : RA X W [e, e2] m) (hbase : attributeBase o "startswith" X.env (eval o X.env) = eval o X.env := by rfl)
    (hfew : ((backTo pos (starEach [e, e2] X.env)).all (fun x => !x.1) && (backToKw pos (keywordEach [] X.env)).all (fun x => x.1.isSome)
      && decide (([e, e2] : List Expr).length + ([] : List Keyword).length + (if ([] : List Keyword).isEmpty then 0 else 1) < 30)) = true := by rfl)
    (hline : (apos.endLine == pos.line) = true := by rfl) (hss : starEach [e, e2] X.env = (false, eval e X.env) :: starEach [e2] X.env := by rfl)
    (hst : ((backTo pos (starEach [e2] X.env)).any fun x => x.fst) = false := by rfl) : RE X W (.Call (.Attribute o "startswith" apos) [e, e2] [] pos) (mMtS dStw3 mo m) :=
  re_mts PySem.F.slot_str_startswith PySem.F.type_str_startswith mt_startswith3 ms_stw3 ho ha hbase hfew hline hss hst
end
section
variable {P : Program} {w : World} {K : PySem.W.Frag} {mg : Str → Option Value} {base : Heap}
theorem fnOk0I {k n : Nat} {f : Addr} {fd : FuncData} {ps : List Str} : FnOk P w K mg base (L2.CX P w) k f fd ps (SpI K mg n fun _ _ => none) :=
  ⟨fun vs H Q E h => (by obtain ⟨_, _, _, _, _, _, _, _, _, _, _, e, _⟩ := h; cases e), fun A outer s H args us vs Q E _ _ _ _ h => (by obtain ⟨_, _, _, _, _, _, _, _, _, _, _, e, _⟩ := h; cases e)⟩
theorem FnI.mono {x : Str} {j k n : Nat} {F : IF} (h : FnI P w K mg base x j n F) (l : j ≤ k) : FnI P w K mg base x k n F := by
  obtain ⟨f, fd, ps, a, b, c, d, e⟩ := h.ex
  exact ⟨⟨f, fd, ps, a, b, c, d, e.mono l⟩⟩
theorem MetI.mono {C x : Str} {j k n : Nat} {F : IF} (h : MetI P w K mg base C x j n F) (l : j ≤ k) : MetI P w K mg base C x k n F := by
  obtain ⟨Ca, f, fd, ps, a, a2, b, c, d, e⟩ := h.ex
  exact ⟨⟨Ca, f, fd, ps, a, a2, b, c, d, e.mono l⟩⟩
theorem MetP.mono {C x : Str} {j k n : Nat} {F : PF} (h : MetP P w K mg base C x j n F) (l : j ≤ k) : MetP P w K mg base C x k n F := by
  obtain ⟨Ca, f, fd, ps, a, a2, b, c, d, e⟩ := h.ex
  exact ⟨⟨Ca, f, fd, ps, a, a2, b, c, d, e.mono l⟩⟩
end
/-! ### where a class's def stands -/
def clsBody : Stmt → List Stmt
  | .ClassDef _ _ _ body _ _ _ _ _ _ _ => body
  | _ => []
end PD

namespace PD
open PySem PySem.Spec PyProof.Rows L2
/-! ## mirrors run by simp -/
def sq (x : Option (RS × EH)) (b : MS) : Option (RS × EH) := match x with
  | some (.nx ε1, h1) => b ε1 h1
  | some (r, h1) => some (r, h1)
  | none => none
section
variable {α : Type} {ε ε1 : Ev} {h h1 : EH}
theorem seq_ap (a b : MS) : msSeq a b ε h = sq (a ε h) b := (rfl)
theorem sq_nx (b : MS) : sq (some (.nx ε, h)) b = b ε h := (rfl)
theorem sq_rt (d : D) (b : MS) : sq (some (.rt d, h)) b = some (.rt d, h) := (rfl)
theorem sq_bk (b : MS) : sq (some (.bk ε, h)) b = some (.bk ε, h) := (rfl)
theorem sq_ct (b : MS) : sq (some (.ct ε, h)) b = some (.ct ε, h) := (rfl)
theorem sq_ex (e : Ex) (b : MS) : sq (some (.ex e ε, h)) b = some (.ex e ε, h) := (rfl)
theorem bS_ok (a : α) (f : α → EH → Option (RS × EH)) : bS (some (.ok a, h)) ε f = f a h := (rfl)
theorem bS_ex (e : Ex) (f : α → EH → Option (RS × EH)) : bS (some (.ex e, h)) ε f = some (.ex e ε, h) := (rfl)
theorem var_ap (i : Nat) : mVar i ε h = rt (ε.getD i none) h := (rfl)
theorem c_ap (d : D) : mC d ε h = some (.ok d, h) := (rfl)
def binK2 (f : EH → D → D → Option D) (x y : D) (h2 : EH) : O D := rt (f h2 x y) h2
def binK1 (f : EH → D → D → Option D) (b : M D) (ε : Ev) (x : D) (h1 : EH) : O D := bR (b ε h1) (binK2 f x)
theorem bin_ap (f : EH → D → D → Option D) (a b : M D) : mBin f a b ε h = bR (a ε h) (binK1 f b ε) := (rfl)
theorem binK1_ap (f : EH → D → D → Option D) (b : M D) (x : D) : binK1 f b ε x h = bR (b ε h) (binK2 f x) := (rfl)
theorem binK2_ap (f : EH → D → D → Option D) (x y : D) : binK2 f x y h = rt (f h x y) h := (rfl)
def tstK (x : D) (h1 : EH) : O Bool := rt (asB x) h1
theorem tst_ap (m : M D) : mTst m ε h = bR (m ε h) tstK := (rfl)
theorem tstK_b (b : Bool) : tstK (.bl b) h = some (.ok b, h) := (rfl)
def notK (b : Bool) (h1 : EH) : O Bool := some (.ok (!b), h1)
theorem not_ap (a : M Bool) : mNot a ε h = bR (a ε h) notK := (rfl)
theorem notK_ap (b : Bool) : notK b h = some (.ok (!b), h) := (rfl)
def andK (b : M Bool) (ε : Ev) (x : Bool) (h1 : EH) : O Bool := if x = true then b ε h1 else some (.ok false, h1)
def orK (b : M Bool) (ε : Ev) (x : Bool) (h1 : EH) : O Bool := if x = true then some (.ok true, h1) else b ε h1
def ifK (a b : M α) (ε : Ev) (x : Bool) (h1 : EH) : O α := if x = true then a ε h1 else b ε h1
theorem and_ap (a b : M Bool) : mAnd a b ε h = bR (a ε h) (andK b ε) := (rfl)
theorem or_ap (a b : M Bool) : mOr a b ε h = bR (a ε h) (orK b ε) := (rfl)
theorem if_ap (t : M Bool) (a b : M α) : mIf t a b ε h = bR (t ε h) (ifK a b ε) := (rfl)
theorem andK_t (b : M Bool) : andK b ε true h = b ε h := (rfl)
theorem andK_f (b : M Bool) : andK b ε false h = some (.ok false, h) := (rfl)
theorem orK_t (b : M Bool) : orK b ε true h = some (.ok true, h) := (rfl)
theorem orK_f (b : M Bool) : orK b ε false h = b ε h := (rfl)
theorem ifK_t (a b : M α) : ifK a b ε true h = a ε h := (rfl)
theorem ifK_f (a b : M α) : ifK a b ε false h = b ε h := (rfl)
def andV (b : M D) (ε : Ev) (x : D) (h : EH) : O D := match x with
  | .bl true => b ε h
  | .bl false => some (.ok (.bl false), h)
  | _ => none
def orV (b : M D) (ε : Ev) (x : D) (h : EH) : O D := match x with
  | .bl true => some (.ok (.bl true), h)
  | .bl false => b ε h
  | _ => none
theorem andv_ap (a b : M D) : mAndV a b ε h = bR (a ε h) (andV b ε) := (rfl)
theorem orv_ap (a b : M D) : mOrV a b ε h = bR (a ε h) (orV b ε) := (rfl)
theorem andV_t (b : M D) : andV b ε (.bl true) h = b ε h := (rfl)
theorem andV_f (b : M D) : andV b ε (.bl false) h = some (.ok (.bl false), h) := (rfl)
theorem orV_t (b : M D) : orV b ε (.bl true) h = some (.ok (.bl true), h) := (rfl)
theorem orV_f (b : M D) : orV b ε (.bl false) h = b ε h := (rfl)
def notV (x : D) (h : EH) : O D := match x with
  | .bl b => some (.ok (.bl (!b)), h)
  | _ => none
theorem notv_ap (a : M D) : mNotV a ε h = bR (a ε h) notV := (rfl)
theorem notV_c (c : Bool) : notV (.bl c) h = some (.ok (.bl (!c)), h) := (rfl)
theorem nil_ap : mNil ε h = some (.ok [], h) := (rfl)
def consK2 (x : D) (xs : List D) (h2 : EH) : O (List D) := some (.ok (x :: xs), h2)
def consK1 (b : M (List D)) (ε : Ev) (x : D) (h1 : EH) : O (List D) := bR (b ε h1) (consK2 x)
theorem cons_ap (a : M D) (b : M (List D)) : mCons a b ε h = bR (a ε h) (consK1 b ε) := (rfl)
theorem consK1_ap (b : M (List D)) (x : D) : consK1 b ε x h = bR (b ε h) (consK2 x) := (rfl)
theorem consK2_ap (x : D) (xs : List D) : consK2 x xs h = some (.ok (x :: xs), h) := (rfl)
def tupK (ds : List D) (h1 : EH) : O D := rt (szL ds (.tup ds)) h1
def lstK (ds : List D) (h1 : EH) : O D := rt (szL ds (.lst ds)) h1
theorem tup_ap (m : M (List D)) : mTup m ε h = bR (m ε h) tupK := (rfl)
theorem lst_ap (m : M (List D)) : mLst m ε h = bR (m ε h) lstK := (rfl)
theorem tupK_ok {ds : List D} (e : ds.length ≤ 16777216) : tupK ds h = some (.ok (.tup ds), h) := by
  show rt (szL ds (.tup ds)) h = _
  rw [show szL ds (.tup ds) = some (.tup ds) from if_pos e]; rfl
theorem lstK_ok {ds : List D} (e : ds.length ≤ 16777216) : lstK ds h = some (.ok (.lst ds), h) := by
  show rt (szL ds (.lst ds)) h = _
  rw [show szL ds (.lst ds) = some (.lst ds) from if_pos e]; rfl
theorem sz_ok {ds : List D} {d : D} (e : ds.length ≤ sizeLine) : szL ds d = some d := if_pos e
def callK (f : EH → List D → Option D) (xs : List D) (h1 : EH) : O D := rt (f h1 xs) h1
theorem call_ap (f : EH → List D → Option D) (a : M (List D)) : mCall f a ε h = bR (a ε h) (callK f) := (rfl)
theorem callK_ap (f : EH → List D → Option D) (xs : List D) : callK f xs h = rt (f h xs) h := (rfl)
def callPK (F : PF) (ds : List D) (h1 : EH) : O D := if noRef.go ds = true then (F ds).map fun r => (r, h1) else none
theorem callP_ap (F : PF) (a : M (List D)) : mCallP F a ε h = bR (a ε h) (callPK F) := (rfl)
theorem callPK_ok {F : PF} {ds : List D} {r : R D} (e2 : F ds = some r) (e : noRef.go ds = true) : callPK F ds h = some (r, h) := by
  unfold callPK
  rw [if_pos e, e2]; rfl
theorem callI_ap (F : IF) (a : M (List D)) : mCallI F a ε h = bR (a ε h) F := (rfl)
def permK (p : List Nat) (ds : List D) (h1 : EH) : O (List D) := some (.ok (permL p ds), h1)
theorem perm_ap (p : List Nat) (a : M (List D)) : mPerm p a ε h = bR (a ε h) (permK p) := (rfl)
theorem permK_ap (p : List Nat) (ds : List D) : permK p ds h = some (.ok (permL p ds), h) := (rfl)
theorem nop_ap : mNoP ε h = some (.ok none, h) := (rfl)
def smP (x : D) (h1 : EH) : O (Option Int) := match x with
  | .int i => some (.ok (some i), h1)
  | _ => none
theorem smp_ap (m : M D) : mSmP m ε h = bR (m ε h) smP := (rfl)
theorem smP_int (i : Int) : smP (.int i) h = some (.ok (some i), h) := (rfl)
def slK3 (x : D) (l u : Option Int) (h3 : EH) : O D := rt (dSl h3 x l u) h3
def slK2 (hi : M (Option Int)) (ε : Ev) (x : D) (l : Option Int) (h2 : EH) : O D := bR (hi ε h2) (slK3 x l)
def slK1 (lo hi : M (Option Int)) (ε : Ev) (x : D) (h1 : EH) : O D := bR (lo ε h1) (slK2 hi ε x)
theorem sl_ap (a : M D) (lo hi : M (Option Int)) : mSl a lo hi ε h = bR (a ε h) (slK1 lo hi ε) := (rfl)
theorem slK1_ap (lo hi : M (Option Int)) (x : D) : slK1 lo hi ε x h = bR (lo ε h) (slK2 hi ε x) := (rfl)
theorem slK2_ap (hi : M (Option Int)) (x : D) (l : Option Int) : slK2 hi ε x l h = bR (hi ε h) (slK3 x l) := (rfl)
theorem slK3_ap (x : D) (l u : Option Int) : slK3 x l u h = rt (dSl h x l u) h := (rfl)
theorem sl_lst (ds : List D) (l u : Option Int) : dSl h (.lst ds) l u = some (.lst (cutD ds l u)) := (rfl)
theorem sl_scr (ds : List D) (l u : Option Int) : dSl h (.scr ds) l u = some (.lst (cutD ds l u)) := (rfl)
theorem sl_tup (ds : List D) (l u : Option Int) : dSl h (.tup ds) l u = some (.tup (cutD ds l u)) := (rfl)
theorem sl_str {z : List Nat} (l u : Option Int) (e : z.length ≤ 16777216) : dSl h (.str z) l u = some (.str (cutD z l u)) := if_pos e
def chK4 (g : EH → D → D → Option D) (y z : D) (h4 : EH) : O D := rt (g h4 y z) h4
def chK3 (g : EH → D → D → Option D) (c : M D) (ε : Ev) (y : D) (k : Bool) (h3 : EH) : O D := if k = true then bR (c ε h3) (chK4 g y) else some (.ok (.bl false), h3)
def chK2 (f g : EH → D → D → Option D) (c : M D) (ε : Ev) (x y : D) (h2 : EH) : O D := bR (rt ((f h2 x y).bind asB) h2) (chK3 g c ε y)
def chK1 (f g : EH → D → D → Option D) (b c : M D) (ε : Ev) (x : D) (h1 : EH) : O D := bR (b ε h1) (chK2 f g c ε x)
theorem chain_ap (f g : EH → D → D → Option D) (a b c : M D) : mChain f g a b c ε h = bR (a ε h) (chK1 f g b c ε) := (rfl)
theorem chK1_ap (f g : EH → D → D → Option D) (b c : M D) (x : D) : chK1 f g b c ε x h = bR (b ε h) (chK2 f g c ε x) := (rfl)
theorem chK2_ap (f g : EH → D → D → Option D) (c : M D) (x y : D) : chK2 f g c ε x y h = bR (rt ((f h x y).bind asB) h) (chK3 g c ε y) := (rfl)
theorem chK3_t (g : EH → D → D → Option D) (c : M D) (y : D) : chK3 g c ε y true h = bR (c ε h) (chK4 g y) := (rfl)
theorem chK3_f (g : EH → D → D → Option D) (c : M D) (y : D) : chK3 g c ε y false h = some (.ok (.bl false), h) := (rfl)
theorem chK4_ap (g : EH → D → D → Option D) (y z : D) : chK4 g y z h = rt (g h y z) h := (rfl)
def isiK (ts : List Ty) (d : D) (h1 : EH) : O D := match tyD h1 d with
  | some t => some (.ok (.bl (ts.any (isa t))), h1)
  | none => none
theorem isi_ap (ts : List Ty) (a : M D) : mIsi ts a ε h = bR (a ε h) (isiK ts) := (rfl)
theorem isiK_int (ts : List Ty) (i : Int) : isiK ts (.int i) h = some (.ok (.bl (ts.any (isa .int))), h) := (rfl)
theorem isiK_str (ts : List Ty) (i : List Nat) : isiK ts (.str i) h = some (.ok (.bl (ts.any (isa .str))), h) := (rfl)
theorem isiK_bl (ts : List Ty) (i : Bool) : isiK ts (.bl i) h = some (.ok (.bl (ts.any (isa .bool))), h) := (rfl)
theorem isiK_non (ts : List Ty) : isiK ts .non h = some (.ok (.bl (ts.any (isa .non))), h) := (rfl)
theorem isiK_tup (ts : List Ty) (i : List D) : isiK ts (.tup i) h = some (.ok (.bl (ts.any (isa .tup))), h) := (rfl)
theorem isiK_lst (ts : List Ty) (i : List D) : isiK ts (.lst i) h = some (.ok (.bl (ts.any (isa .lst))), h) := (rfl)
def lcK (vs : List Nat) (g : MG) (t : M Bool) (e : M D) (ε : Ev) (ds : List D) (h1 : EH) : O D := okL (lcL g t e ds (wipeE ε vs) h1)
theorem lc_ap (vs : List Nat) (it : M (List D)) (g : MG) (t : M Bool) (e : M D) : mLc vs it g t e ε h = bR (it ε h) (lcK vs g t e ε) := (rfl)
theorem lcK_ok {vs : List Nat} {g : MG} {t : M Bool} {e : M D} {ds ys : List D} {h' : EH} (q : lcL g t e ds (wipeE ε vs) h = some (ys, h')) (l : ys.length ≤ 16777216) : lcK vs g t e ε ds h = some (.ok (.lst ys), h') := by
  unfold lcK
  rw [q]
  exact if_pos l
theorem okL_ok {ds : List D} (e : ds.length ≤ sizeLine) : okL (some (ds, h)) = some (.ok (.lst ds), h) := if_pos e
def lstCK (ds : List D) (h1 : EH) : O D := if ds.length ≤ sizeLine then some (.ok (.ref h1.length), h1 ++ [.lst ds]) else none
theorem lstC_ap (m : M (List D)) : mLstC m ε h = bR (m ε h) lstCK := (rfl)
theorem lstCK_ok {ds : List D} (e : ds.length ≤ 16777216) : lstCK ds h = some (.ok (.ref h.length), h ++ [.lst ds]) := if_pos e
def mtsK2 (f : EH → List Nat → List D → Option D) (z : List Nat) (ds : List D) (h2 : EH) : O D := rt (f h2 z ds) h2
def mtsK (f : EH → List Nat → List D → Option D) (a : M (List D)) (ε : Ev) (x : D) (h1 : EH) : O D := match x with
  | .str z => bR (a ε h1) (mtsK2 f z)
  | _ => none
theorem mts_ap (f : EH → List Nat → List D → Option D) (o : M D) (a : M (List D)) : mMtS f o a ε h = bR (o ε h) (mtsK f a ε) := (rfl)
theorem mtsK_str (f : EH → List Nat → List D → Option D) (a : M (List D)) (z : List Nat) : mtsK f a ε (.str z) h = bR (a ε h) (mtsK2 f z) := (rfl)
theorem mtsK2_ap (f : EH → List Nat → List D → Option D) (z : List Nat) (ds : List D) : mtsK2 f z ds h = rt (f h z ds) h := (rfl)
theorem yes_ap : mYes ε h = some (.ok true, h) := (rfl)
def ilK (x : D) (h1 : EH) : O (List D) := match x with
  | .lst ds => some (.ok ds, h1)
  | .scr ds => some (.ok ds, h1)
  | _ => none
theorem il_ap (a : M D) : miL a ε h = bR (a ε h) ilK := (rfl)
theorem ilK_lst (ds : List D) : ilK (.lst ds) h = some (.ok ds, h) := (rfl)
theorem ilK_scr (ds : List D) : ilK (.scr ds) h = some (.ok ds, h) := (rfl)
def itK (x : D) (h1 : EH) : O (List D) := match x with
  | .tup ds => some (.ok ds, h1)
  | _ => none
theorem it_ap (a : M D) : miT a ε h = bR (a ε h) itK := (rfl)
theorem itK_tup (ds : List D) : itK (.tup ds) h = some (.ok ds, h) := (rfl)
def isK (x : D) (h1 : EH) : O (List D) := match x with
  | .str z => some (.ok (z.map fun c => .str [c]), h1)
  | _ => none
theorem is_ap (a : M D) : miS a ε h = bR (a ε h) isK := (rfl)
theorem isK_str (z : List Nat) : isK (.str z) h = some (.ok (z.map fun c => .str [c]), h) := (rfl)
def ir1K (xs : List D) (h1 : EH) : O (List D) := match xs with
  | [.int j] => if -(2 ^ 62) ≤ j ∧ j < 2 ^ 62 then some (.ok (rngD 0 j.toNat), h1) else none
  | _ => none
theorem ir1_ap (a : M (List D)) : miR1 a ε h = bR (a ε h) ir1K := (rfl)
theorem ir1K_ok {j : Int} (e : -(2 ^ 62) ≤ j ∧ j < 2 ^ 62) : ir1K [.int j] h = some (.ok (rngD 0 j.toNat), h) := if_pos e
def izK (xs : List D) (h1 : EH) : O (List D) := match xs with
  | [x, y] => (match x, y with
    | .lst as, .lst bs => some (.ok (zipD as bs), h1)
    | .tup as, .tup bs => some (.ok (zipD as bs), h1)
    | _, _ => none)
  | _ => none
theorem iz_ap (a : M (List D)) : miZip a ε h = bR (a ε h) izK := (rfl)
theorem izK_l (as bs : List D) : izK [.lst as, .lst bs] h = some (.ok (zipD as bs), h) := (rfl)
theorem izK_t (as bs : List D) : izK [.tup as, .tup bs] h = some (.ok (zipD as bs), h) := (rfl)
/-! statements -/
theorem snil_ap : msNil ε h = some (.nx ε, h) := (rfl)
def retK (d : D) (h1 : EH) : Option (RS × EH) := some (.rt d, h1)
theorem ret_ap (a : M D) : msRet a ε h = bS (a ε h) ε retK := (rfl)
theorem retK_ap (d : D) : retK d h = some (.rt d, h) := (rfl)
def sifK (a b : MS) (ε : Ev) (k : Bool) (h1 : EH) : Option (RS × EH) := if k = true then a ε h1 else b ε h1
theorem sif_ap (t : M Bool) (a b : MS) : msIf t a b ε h = bS (t ε h) ε (sifK a b ε) := (rfl)
theorem sifK_t (a b : MS) : sifK a b ε true h = a ε h := (rfl)
theorem sifK_f (a b : MS) : sifK a b ε false h = b ε h := (rfl)
def sexprK (ε : Ev) (_ : D) (h1 : EH) : Option (RS × EH) := some (.nx ε, h1)
theorem sexpr_ap (a : M D) : msExpr a ε h = bS (a ε h) ε (sexprK ε) := (rfl)
theorem sexprK_ap (d : D) : sexprK ε d h = some (.nx ε, h) := (rfl)
theorem bk_ap : msBk ε h = some (.bk ε, h) := (rfl)
theorem ct_ap : msCt ε h = some (.ct ε, h) := (rfl)
def asgK (g : MG) (ε : Ev) (d : D) (h1 : EH) : Option (RS × EH) := bG (g d ε h1)
theorem asg_ap (a : M D) (g : MG) : msAsg a g ε h = bS (a ε h) ε (asgK g ε) := (rfl)
theorem asgK_ap (g : MG) (d : D) : asgK g ε d h = bG (g d ε h) := (rfl)
theorem bG_ok : bG (some (ε, h)) = some (.nx ε, h) := (rfl)
def forK (g : MG) (b : MS) (ε : Ev) (ds : List D) (h1 : EH) : Option (RS × EH) := forL g b ds ε h1
theorem for_ap (it : M (List D)) (g : MG) (b : MS) : msFor it g b ε h = bS (it ε h) ε (forK g b ε) := (rfl)
theorem forK_ap (g : MG) (b : MS) (ds : List D) : forK g b ε ds h = forL g b ds ε h := (rfl)
def parK (i j : Nat) (ε : Ev) (ds : List D) (h1 : EH) : Option (RS × EH) := match ds with
  | [d, e] => some (.nx ((ε.set i (some d)).set j (some e)), h1)
  | _ => none
theorem par_ap (i j : Nat) (m : M (List D)) : msPar i j m ε h = bS (m ε h) ε (parK i j ε) := (rfl)
theorem parK_ok (i j : Nat) (d e : D) : parK i j ε [d, e] h = some (.nx ((ε.set i (some d)).set j (some e)), h) := (rfl)
/-! targets -/
theorem gname_ap (i : Nat) (d : D) : mgName i d ε h = some (ε.set i (some d), h) := (rfl)
theorem gnil_ap : mgNil [] ε h = some (ε, h) := (rfl)
def gK (x : Option (Ev × EH)) (b : MGs) (r : List D) : Option (Ev × EH) := match x with
  | some (ε1, h1) => b r ε1 h1
  | none => none
theorem gcons_ap (a : MG) (b : MGs) (d : D) (r : List D) : mgCons a b (d :: r) ε h = gK (a d ε h) b r := (rfl)
theorem gK_ok (b : MGs) (r : List D) : gK (some (ε, h)) b r = b r ε h := (rfl)
theorem gtup_ap (n : Nat) (ms : MGs) (ds : List D) : mgTup n ms (.tup ds) ε h = if ds.length = n then ms ds ε h else none := (rfl)
def subK2 (v x : D) (ε : Ev) (z : O D) : Option (Ev × EH) := match z with
  | some (.ok y, h2) => (putL h2 x y v).map fun h3 => (ε, h3)
  | _ => none
def subK1 (v : D) (i : M D) (ε : Ev) (z : O D) : Option (Ev × EH) := match z with
  | some (.ok x, h1) => subK2 v x ε (i ε h1)
  | _ => none
theorem gsub_ap (o i : M D) (v : D) : mgSub o i v ε h = subK1 v i ε (o ε h) := by
  unfold mgSub subK1 subK2
  cases o ε h with
  | none => rfl
  | some z =>
    obtain ⟨r, h1⟩ := z
    cases r <;> rfl
theorem subK1_ok (v x : D) (i : M D) : subK1 v i ε (some (.ok x, h)) = subK2 v x ε (i ε h) := (rfl)
theorem subK2_ok (v x y : D) : subK2 v x ε (some (.ok y, h)) = (putL h x y v).map fun h3 => (ε, h3) := (rfl)
/-! values -/
theorem add_int (i j : Int) : dAdd h (.int i) (.int j) = some (.int (i + j)) := (rfl)
theorem add_str {a b : List Nat} (e : a.length + b.length ≤ 16777216) : dAdd h (.str a) (.str b) = some (.str (a ++ b)) := by
  unfold dAdd dCatS dI2
  simp [show a.length + b.length ≤ sizeLine from e]
theorem add_lst {a b : List D} (e : a.length + b.length ≤ 16777216) : dAdd h (.lst a) (.lst b) = some (.lst (a ++ b)) := by
  unfold dAdd dCatS dCatT dCatL dI2
  simp [asO, show a.length + b.length ≤ sizeLine from e]
theorem add_tup {a b : List D} (e : a.length + b.length ≤ 16777216) : dAdd h (.tup a) (.tup b) = some (.tup (a ++ b)) := by
  unfold dAdd dCatS dCatT dCatL dI2
  simp [asO, show a.length + b.length ≤ sizeLine from e]
theorem sub_int (i j : Int) : dSub h (.int i) (.int j) = some (.int (i - j)) := (rfl)
theorem mul_int {i j : Int} (e : CMul i j) : dMul h (.int i) (.int j) = some (.int (i * j)) := if_pos e
theorem div_int {i j : Int} (e : CDiv i j) : dDiv h (.int i) (.int j) = some (.int (i / j)) := if_pos e
theorem mod_int {i j : Int} (e : 0 < j) : dMod h (.int i) (.int j) = some (.int (i % j)) := if_pos e
theorem pow_int {i j : Int} (e : CPow i j) : dPow h (.int i) (.int j) = some (.int (i ^ j.toNat)) := if_pos e
theorem lt_int (i j : Int) : dLt h (.int i) (.int j) = some (.bl (decide (i < j))) := (rfl)
theorem le_int (i j : Int) : dLe h (.int i) (.int j) = some (.bl (decide (i ≤ j))) := (rfl)
theorem gt_int (i j : Int) : dGt h (.int i) (.int j) = some (.bl (decide (j < i))) := (rfl)
theorem ge_int (i j : Int) : dGe h (.int i) (.int j) = some (.bl (decide (j ≤ i))) := (rfl)
theorem eq_int (i j : Int) : dEq h (.int i) (.int j) = some (.bl (decide (i = j))) := (rfl)
theorem eq_str (i j : List Nat) : dEq h (.str i) (.str j) = some (.bl (decide (i = j))) := (rfl)
theorem eq_bl (i j : Bool) : dEq h (.bl i) (.bl j) = some (.bl (decide (i = j))) := (rfl)
theorem eq_is (i : Int) (j : List Nat) : dEq h (.int i) (.str j) = some (.bl false) := (rfl)
theorem eq_si (i : Int) (j : List Nat) : dEq h (.str j) (.int i) = some (.bl false) := (rfl)
theorem eq_bs (i : Bool) (j : List Nat) : dEq h (.bl i) (.str j) = some (.bl false) := (rfl)
theorem eq_sb (i : Bool) (j : List Nat) : dEq h (.str j) (.bl i) = some (.bl false) := (rfl)
theorem eq_nn : dEq h .non .non = some (.bl true) := (rfl)
theorem ne_int (i j : Int) : dNe h (.int i) (.int j) = some (.bl (!decide (i = j))) := (rfl)
theorem ne_str (i j : List Nat) : dNe h (.str i) (.str j) = some (.bl (!decide (i = j))) := (rfl)
theorem ne_bl (i j : Bool) : dNe h (.bl i) (.bl j) = some (.bl (!decide (i = j))) := (rfl)
theorem isn_ap (neg : Bool) (x : D) : dIsN neg h x .non = some (.bl (neg != isNon x)) := (rfl)
theorem isN_int (i : Int) : isNon (.int i) = false := (rfl)
theorem isN_str (i : List Nat) : isNon (.str i) = false := (rfl)
theorem isN_bl (i : Bool) : isNon (.bl i) = false := (rfl)
theorem isN_tup (i : List D) : isNon (.tup i) = false := (rfl)
theorem isN_lst (i : List D) : isNon (.lst i) = false := (rfl)
theorem isN_non : isNon .non = true := (rfl)
theorem ix_ref {n : Nat} {ds : List D} {i : Int} (e : h[n]? = some (.lst ds)) : dIx h (.ref n) (.int i) = atI ds i := by
  show (match asS h (.ref n) with
      | some ds => atI ds i
      | none => none) = _
  have : asS h (.ref n) = some ds := by
    show (match h[n]? with
    | some (.lst ds) => some ds
    | _ => none) = _
    rw [e]
  rw [this]
theorem ix_lst (ds : List D) (i : Int) : dIx h (.lst ds) (.int i) = atI ds i := (rfl)
theorem ix_tup (ds : List D) (i : Int) : dIx h (.tup ds) (.int i) = atI ds i := (rfl)
theorem ix_scr (ds : List D) (i : Int) : dIx h (.scr ds) (.int i) = atI ds i := (rfl)
theorem ix_str {z : List Nat} {i : Int} (e : z.length ≤ 16777216) : dIx h (.str z) (.int i) = (atI z i).map fun k => .str [k] := if_pos e
theorem len_str {z : List Nat} (e : z.length ≤ 16777216) : dLen h [.str z] = some (.int z.length) := if_pos e
theorem len_lst (ds : List D) : dLen h [.lst ds] = some (.int ds.length) := (rfl)
theorem len_tup (ds : List D) : dLen h [.tup ds] = some (.int ds.length) := (rfl)
theorem int_int (i : Int) : dInt h [.int i] = some (.int i) := (rfl)
theorem list_lst (ds : List D) : dList h [.lst ds] = some (.lst ds) := (rfl)
theorem list_tup (ds : List D) : dList h [.tup ds] = some (.lst ds) := (rfl)
theorem tuple_lst (ds : List D) : dTuple h [.lst ds] = some (.tup ds) := (rfl)
theorem tuple_tup (ds : List D) : dTuple h [.tup ds] = some (.tup ds) := (rfl)
theorem all_lst {ds : List D} {bs : List Bool} (e : asBs ds = some bs) : dAll h [.lst ds] = some (.bl (bs.all id)) := by
  show (asBs ds).map _ = _
  rw [e]; rfl
theorem asB_bl (b : Bool) : asB (.bl b) = some b := (rfl)
theorem getD0 {α : Type} (a : Option α) (r : List (Option α)) : (a :: r).getD 0 none = a := (rfl)
theorem getDS {α : Type} (a : Option α) (r : List (Option α)) (n : Nat) : (a :: r).getD (n + 1) none = r.getD n none := by
  simp
theorem set0 {α : Type} (a b : α) (r : List α) : (a :: r).set 0 b = b :: r := (rfl)
theorem setS {α : Type} (a b : α) (r : List α) (n : Nat) : (a :: r).set (n + 1) b = a :: r.set n b := (rfl)
theorem at0 {α : Type} (a : α) (r : List α) : (a :: r)[0]? = some a := (rfl)
theorem atS {α : Type} (a : α) (r : List α) (n : Nat) : (a :: r)[n + 1]? = r[n]? := (rfl)
theorem atI_nat {α : Type} (xs : List α) (n : Nat) (i : Int) (e : i = (n : Int)) : atI xs i = xs[n]? := by
  subst e
  unfold atI ixN
  by_cases hn : n < xs.length
  · rw [if_pos (by omega), if_pos (by omega)]
    rfl
  · rw [if_pos (by omega), if_neg (by omega), List.getElem?_eq_none (by omega)]
    rfl
theorem putL_ref {n : Nat} {ds : List D} {i : Int} {j : Nat} {v : D} (e : h[n]? = some (.lst ds)) (e2 : ixN ds.length i = some j) : putL h (.ref n) (.int i) v = some (h.set n (.lst (ds.set j v))) := by
  unfold putL
  simp only [e, e2]
theorem endI_rt {d d' : D} {n : Nat} (e : h.length = n) (f : frzI n h d = some d') : endI n (some (.rt d, h)) = some (.ok d', h) := by
  unfold endI trim
  simp only [f, e, if_true]
theorem endI_nx {n : Nat} (e : h.length = n) : endI n (some (.nx ε, h)) = some (.ok .non, h) := by
  unfold endI trim
  simp only [e, if_true, Option.map_some]
theorem endP_rt {d : D} (e : noRef d = true) (f : frz h d = some d) : endP (some (.rt d, h)) = some (.ok d) := by
  show (frz h d).map _ = _
  rw [f]; rfl
theorem map_some' {α β : Type} (f : α → β) (a : α) : (some a).map f = some (f a) := (rfl)
theorem bind_some' {α β : Type} (f : α → Option β) (a : α) : (some a).bind f = f a := (rfl)
end
theorem frz_id {h : EH} : ∀ {d : D}, noRef d = true → frz1 h d = some d
  | .non, _ => rfl
  | .bl _, _ => rfl
  | .int _, _ => rfl
  | .str _, _ => rfl
  | .dic _ _, e => if_pos e
  | .ref _, e => by cases e
  | .tup ds, e => if_pos e
  | .lst ds, e => if_pos e
  | .scr ds, e => if_pos e
  | .obj C fs, e => if_pos e
theorem frzL_id {h : EH} : ∀ {ds : List D}, noRef.go ds = true → frzL h ds = some ds
  | [], _ => rfl
  | d :: ds, e => by
    rw [noRef.go, Bool.and_eq_true] at e
    unfold frzL
    rw [frz_id e.1, frzL_id e.2]
theorem frzT {h : EH} : ∀ {d : D}, noRef d = true → frz h d = some d
  | .tup ds, e => by
    show (frzL h ds).map D.tup = _
    rw [frzL_id (by rw [noRef] at e; exact e)]; rfl
  | .lst ds, e => by
    show (frzL h ds).map D.lst = _
    rw [frzL_id (by rw [noRef] at e; exact e)]; rfl
  | .non, _ => rfl
  | .bl _, _ => rfl
  | .int _, _ => rfl
  | .str _, _ => rfl
  | .dic _ _, e => if_pos e
  | .ref _, e => by cases e
  | .scr ds, e => if_pos e
  | .obj C fs, e => if_pos e
theorem frzI_id1 {n : Nat} {h : EH} : ∀ {d : D}, noRef d = true → frz1I n h d = some d
  | .non, _ => rfl
  | .bl _, _ => rfl
  | .int _, _ => rfl
  | .str _, _ => rfl
  | .dic _ _, e => if_pos e
  | .ref _, e => by cases e
  | .tup ds, e => if_pos e
  | .lst ds, e => if_pos e
  | .scr ds, e => if_pos e
  | .obj C fs, e => if_pos e
theorem frzLI_id {n : Nat} {h : EH} : ∀ {ds : List D}, noRef.go ds = true → frzLI n h ds = some ds
  | [], _ => rfl
  | d :: ds, e => by
    rw [noRef.go, Bool.and_eq_true] at e
    unfold frzLI
    rw [frzI_id1 e.1, frzLI_id e.2]
theorem frzIT {n : Nat} {h : EH} : ∀ {d : D}, noRef d = true → frzI n h d = some d
  | .tup ds, e => by
    show (frzLI n h ds).map D.tup = _
    rw [frzLI_id (by rw [noRef] at e; exact e)]; rfl
  | .lst ds, e => by
    show (frzLI n h ds).map D.lst = _
    rw [frzLI_id (by rw [noRef] at e; exact e)]; rfl
  | .non, _ => rfl
  | .bl _, _ => rfl
  | .int _, _ => rfl
  | .str _, _ => rfl
  | .dic _ _, e => if_pos e
  | .ref _, e => by cases e
  | .scr ds, e => if_pos e
  | .obj C fs, e => if_pos e
section
variable {h h' : EH} {d : D} {n : Nat}
theorem endP_ok (e : noRef d = true) : endP (some (.rt d, h)) = some (.ok d) := endP_rt e (frzT e)
theorem endI_ok (l : h.length = n) (e : noRef d = true) : endI n (some (.rt d, h)) = some (.ok d, h) := endI_rt l (frzIT e)
end
end PD

namespace PD
open PySem PySem.Spec PyProof.Rows L2
/-! ## the laws' draws -/
def bagC (cs : List D) (i b s c : Int) : Cell := .lst [.lst cs, .int i, .int b, .int s, .int c]
/-- a bag between two pulls -/
structure BagI (k : Cell) : Prop where
  ex : ∃ (cs : List Int) (i b s c : Int), k = bagC (cs.map .int) i b s c ∧ cs.length ≤ 63 ∧ 0 ≤ i ∧ 0 ≤ b ∧ 0 ≤ s ∧ s < 2147483549
theorem cmul_r {i j : Int} (h : -18446744073709551616 < j ∧ j < 18446744073709551616) : CMul i j := .inr h
theorem cmul_l {i j : Int} (h : -18446744073709551616 < i ∧ i < 18446744073709551616) : CMul i j := .inl h
def mPull : MS :=
    (msSeq (msAsg (mBin dAdd (mBin dIx (mVar 0) (mC (.int 4))) (mC (.int 1))) (mgSub (mVar 0) (mC (.int 4))))
    (msSeq (msIf (mAnd (mTst (mBin dEq (mBin dIx (mVar 0) (mC (.int 2))) (mC (.int 0)))) (mTst (mBin dLt (mBin dIx (mVar 0) (mC (.int 1))) (mCall dLen (mCons (mBin dIx (mVar 0) (mC (.int 0))) mNil))))) (msSeq (msAsg (mTup (mCons (mBin dIx (mBin dIx (mVar 0) (mC (.int 0))) (mBin dIx (mVar 0) (mC (.int 1)))) (mCons (mBin dAdd (mBin dIx (mVar 0) (mC (.int 1))) (mC (.int 1))) mNil))) (mgTup 2 (mgCons (mgName 3) (mgCons (mgSub (mVar 0) (mC (.int 1))) mgNil))))
    (msSeq (msIf (mTst (mBin dGe (mVar 3) (mBin dPow (mC (.int 10)) (mC (.int 18))))) (msAsg (mVar 3) (mgSub (mVar 0) (mC (.int 2)))) msNil)
    (msAsg (mBin dMod (mCall dInt (mCons (mBin dAdd (mBin dAdd (mBin dMul (mBin dIx (mVar 0) (mC (.int 3))) (mC (.int 38377))) (mBin dMul (mBin dMod (mCall dInt (mCons (mVar 3) mNil)) (mC (.int 2147483489))) (mC (.int 41143)))) (mC (.int 61))) mNil)) (mC (.int 2147483549))) (mgSub (mVar 0) (mC (.int 3)))))) msNil)
    (msSeq (msIf (mTst (mBin dGt (mBin dIx (mVar 0) (mC (.int 2))) (mC (.int 0)))) (msSeq (msAsg (mTup (mCons (mBin dMod (mCall dInt (mCons (mBin dIx (mVar 0) (mC (.int 2))) mNil)) (mVar 1)) (mCons (mBin dDiv (mBin dIx (mVar 0) (mC (.int 2))) (mVar 1)) mNil))) (mgTup 2 (mgCons (mgName 4) (mgCons (mgSub (mVar 0) (mC (.int 2))) mgNil))))
    (msRet (mVar 4))) msNil)
    (msSeq (msAsg (mBin dIx (mVar 0) (mC (.int 3))) (mgName 2))
    (msSeq (msAsg (mBin dMod (mCall dInt (mCons (mBin dAdd (mBin dAdd (mBin dAdd (mBin dPow (mVar 2) (mC (.int 3))) (mBin dMul (mVar 2) (mC (.int 37813)))) (mBin dMul (mBin dIx (mVar 0) (mC (.int 4))) (mC (.int 1299689)))) (mC (.int 65437))) mNil)) (mC (.int 2147483549))) (mgSub (mVar 0) (mC (.int 3))))
    (msRet (mBin dMod (mCall dInt (mCons (mBin dAdd (mBin dDiv (mBin dIx (mVar 0) (mC (.int 3))) (mC (.int 89))) (mBin dMul (mBin dMod (mCall dInt (mCons (mBin dIx (mVar 0) (mC (.int 3))) mNil)) (mC (.int 7919))) (mC (.int 71)))) mNil)) (mVar 1))))))))
section
variable {cs : List D} {i b s c : Int} {t : EH}
theorem bag_at : (bagC cs i b s c :: t)[0]? = some (.lst [.lst cs, .int i, .int b, .int s, .int c]) := rfl
theorem bag0 : dIx (bagC cs i b s c :: t) (.ref 0) (.int 0) = some (.lst cs) := rfl
theorem bag1 : dIx (bagC cs i b s c :: t) (.ref 0) (.int 1) = some (.int i) := rfl
theorem bag2 : dIx (bagC cs i b s c :: t) (.ref 0) (.int 2) = some (.int b) := rfl
theorem bag3 : dIx (bagC cs i b s c :: t) (.ref 0) (.int 3) = some (.int s) := rfl
theorem bag4 : dIx (bagC cs i b s c :: t) (.ref 0) (.int 4) = some (.int c) := rfl
theorem put1 (x : Int) : putL (bagC cs i b s c :: t) (.ref 0) (.int 1) (.int x) = some (bagC cs x b s c :: t) := rfl
theorem put2 (x : Int) : putL (bagC cs i b s c :: t) (.ref 0) (.int 2) (.int x) = some (bagC cs i x s c :: t) := rfl
theorem put3 (x : Int) : putL (bagC cs i b s c :: t) (.ref 0) (.int 3) (.int x) = some (bagC cs i b x c :: t) := rfl
theorem put4 (x : Int) : putL (bagC cs i b s c :: t) (.ref 0) (.int 4) (.int x) = some (bagC cs i b s x :: t) := rfl
end
theorem mul_rc {h : EH} {i j : Int} (e : -18446744073709551616 < j ∧ j < 18446744073709551616) : dMul h (.int i) (.int j) = some (.int (i * j)) := mul_int (.inr e)
theorem pow_c {h : EH} {i j : Int} (e : 0 ≤ j ∧ j ≤ 1000000) (e2 : i.natAbs < 18446744073709551616) : dPow h (.int i) (.int j) = some (.int (i ^ j.toNat)) := pow_int ⟨e.1, e.2, e2⟩
theorem p10_18 {h : EH} : dPow h (.int 10) (.int 18) = some (.int 1000000000000000000) := pow_int ⟨by decide, by decide, by decide⟩
theorem p10_20 {h : EH} : dPow h (.int 10) (.int 20) = some (.int 100000000000000000000) := pow_int ⟨by decide, by decide, by decide⟩
theorem p10_30 {h : EH} : dPow h (.int 10) (.int 30) = some (.int 1000000000000000000000000000000) := pow_int ⟨by decide, by decide, by decide⟩
theorem div_c {h : EH} {i j : Int} (e : 0 < j ∧ j < 1073741824) : dDiv h (.int i) (.int j) = some (.int (i / j)) := div_int e
theorem pull_ok {k : Cell} (hk : BagI k) {n : Int} (hn : 0 < n) (hn2 : n < 1073741824) (t : EH) : ∃ d k', runI 5 mPull [.ref 0, .int n] (k :: t) = some (.ok (.int d), k' :: t) ∧ 0 ≤ d ∧ d < n ∧ BagI k' := by
  obtain ⟨cs, i, b, s, c, rfl, hcs, hi, hb, hs, hs2⟩ := hk.ex
  have fin : ∀ {d : Int} {k' : Cell} {ε : Ev}, mPull (startE 5 [.ref 0, .int n]) (bagC (cs.map .int) i b s c :: t) = some (.rt (.int d), k' :: t) → runI 5 mPull [.ref 0, .int n] (bagC (cs.map .int) i b s c :: t) = some (.ok (.int d), k' :: t) := fun e => by
    unfold runI
    rw [e]
    exact endI_ok rfl rfl
  have e0 : startE 5 [.ref 0, .int n] = [some (.ref 0), some (.int n), none, none, none] := rfl
  rw [e0] at fin
  have hs3 : s.natAbs < 18446744073709551616 := by omega
  by_cases q1 : b = 0
  · subst q1
    have M : ∀ z : Int, 0 ≤ z % 2147483549 ∧ z % 2147483549 < 2147483549 := fun z => ⟨Int.emod_nonneg _ (by decide), Int.emod_lt_of_pos _ (by decide)⟩
    by_cases q2 : i < (cs.length : Int)
    · obtain ⟨j, rfl⟩ : ∃ j : Nat, i = (j : Int) := ⟨i.toNat, by omega⟩
      have hj : j < cs.length := by omega
      have eX : atI (cs.map D.int) (j : Int) = some (.int cs[j]) := by
        rw [atI_nat _ j _ rfl, List.getElem?_map, List.getElem?_eq_getElem hj]; rfl
      by_cases q3 : (1000000000000000000 : Int) ≤ cs[j]
      · have q4 : 0 < cs[j] := by omega
        refine ⟨cs[j] % n, bagC (cs.map .int) (j + 1) (cs[j] / n) ((s * 38377 + cs[j] % 2147483489 * 41143 + 61) % 2147483549) (c + 1), ?_, Int.emod_nonneg _ (by omega), Int.emod_lt_of_pos _ hn, ⟨_, _, _, _, _, rfl, hcs, by omega, Int.ediv_nonneg (by omega) (by omega), (M _).1, (M _).2⟩⟩
        refine fin (ε := []) ?_
        simp only [mPull, ↓seq_ap, ↓var_ap, ↓c_ap, ↓bin_ap, ↓tst_ap, ↓not_ap, ↓and_ap, ↓or_ap, ↓if_ap, ↓andv_ap, ↓orv_ap, ↓notv_ap, ↓nil_ap, ↓cons_ap, ↓tup_ap, ↓lst_ap, ↓call_ap, ↓callP_ap, ↓callI_ap, ↓perm_ap, ↓nop_ap, ↓smp_ap, ↓sl_ap, ↓chain_ap, ↓isi_ap, ↓lc_ap, ↓lstC_ap, ↓mts_ap, ↓yes_ap, ↓il_ap, ↓it_ap, ↓is_ap, ↓ir1_ap, ↓iz_ap, ↓snil_ap, ↓ret_ap, ↓sif_ap, ↓sexpr_ap, ↓bk_ap, ↓ct_ap, ↓asg_ap, ↓for_ap, ↓par_ap, ↓gname_ap, ↓gnil_ap, ↓gcons_ap, ↓gtup_ap, ↓gsub_ap, bR_ok, bR_ex, rt_some, sq_nx, sq_rt, sq_bk, sq_ct, sq_ex, bS_ok, bS_ex, binK1_ap, binK2_ap, tstK_b, notK_ap, andK_t, andK_f, orK_t, orK_f, ifK_t, ifK_f, andV_t, andV_f, orV_t, orV_f, notV_c, consK1_ap, consK2_ap, tupK_ok, lstK_ok, callK_ap, permK_ap, smP_int, slK1_ap, slK2_ap, slK3_ap, sl_lst, sl_scr, sl_tup, chK1_ap, chK2_ap, chK3_t, chK3_f, chK4_ap, isiK_int, isiK_str, isiK_bl, isiK_non, isiK_tup, isiK_lst, mtsK_str, mtsK2_ap, ilK_lst, ilK_scr, itK_tup, isK_str, izK_l, izK_t, retK_ap, sifK_t, sifK_f, sexprK_ap, asgK_ap, bG_ok, forK_ap, parK_ok, gK_ok, subK1_ok, subK2_ok, add_int, sub_int, mod_int, lt_int, le_int, gt_int, ge_int, eq_int, eq_str, eq_bl, eq_is, eq_si, eq_bs, eq_sb, eq_nn, ne_int, ne_str, ne_bl, isn_ap, isN_int, isN_str, isN_bl, isN_tup, isN_lst, isN_non, ix_lst, ix_tup, ix_scr, len_lst, len_tup, int_int, list_lst, list_tup, tuple_lst, tuple_tup, asB_bl, getD0, getDS, set0, setS, at0, atS, map_some', bind_some', List.length_cons, List.length_nil, List.any_cons, List.any_nil, bag0, bag1, bag2, bag3, bag4, put1, put2, put3, put4, hn, hn2, q2, q3, q4, eX, decide_true, decide_false, and_self, div_c, mul_rc, p10_18, pow_c, Nat.reduceLeDiff, Nat.reduceAdd, if_true, List.length_map, Int.reduceLT, Int.reduceNeg, Int.reducePow, Int.reduceToNat, Int.reduceLE, Nat.reduceLT]
      · have hs4 := M (s * 38377 + cs[j] % 2147483489 * 41143 + 61)
        generalize hs' : (s * 38377 + cs[j] % 2147483489 * 41143 + 61) % 2147483549 = s' at hs4
        have hs5 : s'.natAbs < 18446744073709551616 := by omega
        generalize hz : (s' ^ 3 + s' * 37813 + (c + 1) * 1299689 + 65437) % 2147483549 = z
        refine ⟨(z / 89 + z % 7919 * 71) % n, bagC (cs.map .int) (j + 1) 0 z (c + 1), ?_, Int.emod_nonneg _ (by omega), Int.emod_lt_of_pos _ hn, ⟨_, _, _, _, _, rfl, hcs, by omega, by omega, by rw [← hz]; exact (M _).1, by rw [← hz]; exact (M _).2⟩⟩
        refine fin (ε := []) ?_
        simp only [mPull, ↓seq_ap, ↓var_ap, ↓c_ap, ↓bin_ap, ↓tst_ap, ↓not_ap, ↓and_ap, ↓or_ap, ↓if_ap, ↓andv_ap, ↓orv_ap, ↓notv_ap, ↓nil_ap, ↓cons_ap, ↓tup_ap, ↓lst_ap, ↓call_ap, ↓callP_ap, ↓callI_ap, ↓perm_ap, ↓nop_ap, ↓smp_ap, ↓sl_ap, ↓chain_ap, ↓isi_ap, ↓lc_ap, ↓lstC_ap, ↓mts_ap, ↓yes_ap, ↓il_ap, ↓it_ap, ↓is_ap, ↓ir1_ap, ↓iz_ap, ↓snil_ap, ↓ret_ap, ↓sif_ap, ↓sexpr_ap, ↓bk_ap, ↓ct_ap, ↓asg_ap, ↓for_ap, ↓par_ap, ↓gname_ap, ↓gnil_ap, ↓gcons_ap, ↓gtup_ap, ↓gsub_ap, bR_ok, bR_ex, rt_some, sq_nx, sq_rt, sq_bk, sq_ct, sq_ex, bS_ok, bS_ex, binK1_ap, binK2_ap, tstK_b, notK_ap, andK_t, andK_f, orK_t, orK_f, ifK_t, ifK_f, andV_t, andV_f, orV_t, orV_f, notV_c, consK1_ap, consK2_ap, tupK_ok, lstK_ok, callK_ap, permK_ap, smP_int, slK1_ap, slK2_ap, slK3_ap, sl_lst, sl_scr, sl_tup, chK1_ap, chK2_ap, chK3_t, chK3_f, chK4_ap, isiK_int, isiK_str, isiK_bl, isiK_non, isiK_tup, isiK_lst, mtsK_str, mtsK2_ap, ilK_lst, ilK_scr, itK_tup, isK_str, izK_l, izK_t, retK_ap, sifK_t, sifK_f, sexprK_ap, asgK_ap, bG_ok, forK_ap, parK_ok, gK_ok, subK1_ok, subK2_ok, add_int, sub_int, mod_int, lt_int, le_int, gt_int, ge_int, eq_int, eq_str, eq_bl, eq_is, eq_si, eq_bs, eq_sb, eq_nn, ne_int, ne_str, ne_bl, isn_ap, isN_int, isN_str, isN_bl, isN_tup, isN_lst, isN_non, ix_lst, ix_tup, ix_scr, len_lst, len_tup, int_int, list_lst, list_tup, tuple_lst, tuple_tup, asB_bl, getD0, getDS, set0, setS, at0, atS, map_some', bind_some', List.length_cons, List.length_nil, List.any_cons, List.any_nil, bag0, bag1, bag2, bag3, bag4, put1, put2, put3, put4, hn, hn2, q2, q3, eX, decide_true, decide_false, and_self, div_c, mul_rc, p10_18, pow_c, Nat.reduceLeDiff, Nat.reduceAdd, if_true, List.length_map, Int.reduceLT, Int.reduceNeg, Int.reducePow, Int.reduceToNat, Int.reduceLE, Nat.reduceLT, hs', hs5, hz]
    · have hs5 : s.natAbs < 18446744073709551616 := by omega
      generalize hz : (s ^ 3 + s * 37813 + (c + 1) * 1299689 + 65437) % 2147483549 = z
      refine ⟨(z / 89 + z % 7919 * 71) % n, bagC (cs.map .int) i 0 z (c + 1), ?_, Int.emod_nonneg _ (by omega), Int.emod_lt_of_pos _ hn, ⟨_, _, _, _, _, rfl, hcs, by omega, by omega, by rw [← hz]; exact (M _).1, by rw [← hz]; exact (M _).2⟩⟩
      refine fin (ε := []) ?_
      simp only [mPull, ↓seq_ap, ↓var_ap, ↓c_ap, ↓bin_ap, ↓tst_ap, ↓not_ap, ↓and_ap, ↓or_ap, ↓if_ap, ↓andv_ap, ↓orv_ap, ↓notv_ap, ↓nil_ap, ↓cons_ap, ↓tup_ap, ↓lst_ap, ↓call_ap, ↓callP_ap, ↓callI_ap, ↓perm_ap, ↓nop_ap, ↓smp_ap, ↓sl_ap, ↓chain_ap, ↓isi_ap, ↓lc_ap, ↓lstC_ap, ↓mts_ap, ↓yes_ap, ↓il_ap, ↓it_ap, ↓is_ap, ↓ir1_ap, ↓iz_ap, ↓snil_ap, ↓ret_ap, ↓sif_ap, ↓sexpr_ap, ↓bk_ap, ↓ct_ap, ↓asg_ap, ↓for_ap, ↓par_ap, ↓gname_ap, ↓gnil_ap, ↓gcons_ap, ↓gtup_ap, ↓gsub_ap, bR_ok, bR_ex, rt_some, sq_nx, sq_rt, sq_bk, sq_ct, sq_ex, bS_ok, bS_ex, binK1_ap, binK2_ap, tstK_b, notK_ap, andK_t, andK_f, orK_t, orK_f, ifK_t, ifK_f, andV_t, andV_f, orV_t, orV_f, notV_c, consK1_ap, consK2_ap, tupK_ok, lstK_ok, callK_ap, permK_ap, smP_int, slK1_ap, slK2_ap, slK3_ap, sl_lst, sl_scr, sl_tup, chK1_ap, chK2_ap, chK3_t, chK3_f, chK4_ap, isiK_int, isiK_str, isiK_bl, isiK_non, isiK_tup, isiK_lst, mtsK_str, mtsK2_ap, ilK_lst, ilK_scr, itK_tup, isK_str, izK_l, izK_t, retK_ap, sifK_t, sifK_f, sexprK_ap, asgK_ap, bG_ok, forK_ap, parK_ok, gK_ok, subK1_ok, subK2_ok, add_int, sub_int, mod_int, lt_int, le_int, gt_int, ge_int, eq_int, eq_str, eq_bl, eq_is, eq_si, eq_bs, eq_sb, eq_nn, ne_int, ne_str, ne_bl, isn_ap, isN_int, isN_str, isN_bl, isN_tup, isN_lst, isN_non, ix_lst, ix_tup, ix_scr, len_lst, len_tup, int_int, list_lst, list_tup, tuple_lst, tuple_tup, asB_bl, getD0, getDS, set0, setS, at0, atS, map_some', bind_some', List.length_cons, List.length_nil, List.any_cons, List.any_nil, bag0, bag1, bag2, bag3, bag4, put1, put2, put3, put4, hn, hn2, q2, decide_true, decide_false, and_self, div_c, mul_rc, p10_18, pow_c, Nat.reduceLeDiff, Nat.reduceAdd, if_true, List.length_map, Int.reduceLT, Int.reduceNeg, Int.reducePow, Int.reduceToNat, Int.reduceLE, Nat.reduceLT, hs5, hz]
  · have q2 : 0 < b := by omega
    refine ⟨b % n, bagC (cs.map .int) i (b / n) s (c + 1), ?_, Int.emod_nonneg _ (by omega), Int.emod_lt_of_pos _ hn, ⟨_, _, _, _, _, rfl, hcs, hi, Int.ediv_nonneg hb (by omega), hs, hs2⟩⟩
    refine fin (ε := []) ?_
    simp only [mPull, ↓seq_ap, ↓var_ap, ↓c_ap, ↓bin_ap, ↓tst_ap, ↓not_ap, ↓and_ap, ↓or_ap, ↓if_ap, ↓andv_ap, ↓orv_ap, ↓notv_ap, ↓nil_ap, ↓cons_ap, ↓tup_ap, ↓lst_ap, ↓call_ap, ↓callP_ap, ↓callI_ap, ↓perm_ap, ↓nop_ap, ↓smp_ap, ↓sl_ap, ↓chain_ap, ↓isi_ap, ↓lc_ap, ↓lstC_ap, ↓mts_ap, ↓yes_ap, ↓il_ap, ↓it_ap, ↓is_ap, ↓ir1_ap, ↓iz_ap, ↓snil_ap, ↓ret_ap, ↓sif_ap, ↓sexpr_ap, ↓bk_ap, ↓ct_ap, ↓asg_ap, ↓for_ap, ↓par_ap, ↓gname_ap, ↓gnil_ap, ↓gcons_ap, ↓gtup_ap, ↓gsub_ap, bR_ok, bR_ex, rt_some, sq_nx, sq_rt, sq_bk, sq_ct, sq_ex, bS_ok, bS_ex, binK1_ap, binK2_ap, tstK_b, notK_ap, andK_t, andK_f, orK_t, orK_f, ifK_t, ifK_f, andV_t, andV_f, orV_t, orV_f, notV_c, consK1_ap, consK2_ap, tupK_ok, lstK_ok, callK_ap, permK_ap, smP_int, slK1_ap, slK2_ap, slK3_ap, sl_lst, sl_scr, sl_tup, chK1_ap, chK2_ap, chK3_t, chK3_f, chK4_ap, isiK_int, isiK_str, isiK_bl, isiK_non, isiK_tup, isiK_lst, mtsK_str, mtsK2_ap, ilK_lst, ilK_scr, itK_tup, isK_str, izK_l, izK_t, retK_ap, sifK_t, sifK_f, sexprK_ap, asgK_ap, bG_ok, forK_ap, parK_ok, gK_ok, subK1_ok, subK2_ok, add_int, sub_int, mod_int, lt_int, le_int, gt_int, ge_int, eq_int, eq_str, eq_bl, eq_is, eq_si, eq_bs, eq_sb, eq_nn, ne_int, ne_str, ne_bl, isn_ap, isN_int, isN_str, isN_bl, isN_tup, isN_lst, isN_non, ix_lst, ix_tup, ix_scr, len_lst, len_tup, int_int, list_lst, list_tup, tuple_lst, tuple_tup, asB_bl, getD0, getDS, set0, setS, at0, atS, map_some', bind_some', List.length_cons, List.length_nil, List.any_cons, List.any_nil, bag0, bag1, bag2, bag3, bag4, put1, put2, put3, put4, hn, hn2, q1, q2, decide_true, decide_false, and_self, div_c, Nat.reduceLeDiff, Nat.reduceAdd, if_true]
end PD

namespace PD
open PySem PySem.Spec PyProof.Rows L2
def F_pull : IF := runI 5 mPull
/-! ## comprehensions -/
theorem lcL_map {g : MG} {t : M Bool} {e : M D} (f : D → D) {ε : Ev} {h : EH} : ∀ {ds : List D}, (∀ d ∈ ds, ∃ ε1, g d ε h = some (ε1, h) ∧ t ε1 h = some (.ok true, h) ∧ e ε1 h = some (.ok (f d), h)) → lcL g t e ds ε h = some (ds.map f, h)
  | [], _ => rfl
  | d :: ds, H => by
    obtain ⟨ε1, h1, h2, h3⟩ := H d List.mem_cons_self
    unfold lcL
    simp only [h1, h2, h3, lcL_map f fun x hx => H x (List.mem_cons_of_mem _ hx), List.map_cons]
theorem lcL_filter {g : MG} {t : M Bool} {e : M D} (p : D → Bool) (f : D → D) {ε : Ev} {h : EH} : ∀ {ds : List D}, (∀ d ∈ ds, ∃ ε1, g d ε h = some (ε1, h) ∧ t ε1 h = some (.ok (p d), h) ∧ (p d = true → e ε1 h = some (.ok (f d), h))) → lcL g t e ds ε h = some ((ds.filter p).map f, h)
  | [], _ => rfl
  | d :: ds, H => by
    obtain ⟨ε1, h1, h2, h3⟩ := H d List.mem_cons_self
    have ih := lcL_filter (ds := ds) p f fun x hx => H x (List.mem_cons_of_mem _ hx)
    unfold lcL
    cases q : p d with
    | true => simp only [h1, h2, q, h3 q, ih, List.filter_cons_of_pos, List.map_cons]
    | false =>
      rw [q] at h2
      simp only [h1, h2, ih]
      rw [List.filter_cons_of_neg (by simp [q])]
theorem lcL_bag {g : MG} {e : M D} {ε : Ev} (P : D → Prop) : ∀ {ds : List D}, (∀ d ∈ ds, ∀ k t, BagI k → ∃ ε1 y k', g d ε (k :: t) = some (ε1, k :: t) ∧ e ε1 (k :: t) = some (.ok y, k' :: t) ∧ P y ∧ BagI k') →
    ∀ k t, BagI k → ∃ ys k', lcL g mYes e ds ε (k :: t) = some (ys, k' :: t) ∧ ys.length = ds.length ∧ (∀ y ∈ ys, P y) ∧ BagI k'
  | [], _, k, t, hk => ⟨[], k, rfl, rfl, (fun _ h => nomatch h), hk⟩
  | d :: ds, H, k, t, hk => by
    obtain ⟨ε1, y, k1, h1, h2, h3, h4⟩ := H d List.mem_cons_self k t hk
    obtain ⟨ys, k2, i1, i2, i3, i4⟩ := lcL_bag P (fun x hx => H x (List.mem_cons_of_mem _ hx)) k1 t h4
    refine ⟨y :: ys, k2, ?_, congrArg Nat.succ i2, fun z hz => ?_, i4⟩
    · unfold lcL
      simp only [h1, yes_ap, h2, i1]
    · rcases List.mem_cons.mp hz with e | e
      · rw [e]; exact h3
      · exact i3 z e
theorem asBs_map {α : Type} (f : α → Bool) : ∀ ds : List α, asBs (ds.map fun d => .bl (f d)) = some (ds.map f)
  | [] => rfl
  | d :: ds => by
    rw [List.map_cons]
    unfold asBs
    rw [asBs_map f ds]; rfl
theorem atI_in {α : Type} {ds : List α} {i : Int} (h0 : 0 ≤ i) (h1 : i < (ds.length : Int)) : ∃ x ∈ ds, atI ds i = some x := by
  have hj : i.toNat < ds.length := by omega
  exact ⟨ds[i.toNat], List.getElem_mem hj, by rw [atI_nat ds i.toNat i (by omega), List.getElem?_eq_getElem hj]⟩

/-! ## any -/
def mAny : MS :=
    (msRet (mBin dIx (mVar 1) (mCallI F_pull (mCons (mVar 0) (mCons (mCall dLen (mCons (mVar 1) mNil)) mNil)))))
def F_any : IF := runI 2 mAny
theorem any_lst {k : Cell} (hk : BagI k) {ds : List D} (h0 : 0 < ds.length) (h1 : ds.length < 1073741824) (hr : ∀ d ∈ ds, noRef d = true) (t : EH) : ∃ d k', F_any [.ref 0, .lst ds] (k :: t) = some (.ok d, k' :: t) ∧ d ∈ ds ∧ BagI k' := by
  obtain ⟨i, k', e, i0, i1, hk'⟩ := pull_ok hk (n := (ds.length : Int)) (by omega) (by omega) t
  obtain ⟨d, hd, ed⟩ := atI_in i0 i1
  refine ⟨d, k', ?_, hd, hk'⟩
  show endI _ (mAny [some (.ref 0), some (.lst ds)] (k :: t)) = _
  have e' : F_pull [.ref 0, .int ds.length] (k :: t) = some (.ok (.int i), k' :: t) := e
  simp only [mAny, ↓seq_ap, ↓var_ap, ↓c_ap, ↓bin_ap, ↓tst_ap, ↓not_ap, ↓and_ap, ↓or_ap, ↓if_ap, ↓andv_ap, ↓orv_ap, ↓notv_ap, ↓nil_ap, ↓cons_ap, ↓tup_ap, ↓lst_ap, ↓call_ap, ↓callP_ap, ↓callI_ap, ↓perm_ap, ↓nop_ap, ↓smp_ap, ↓sl_ap, ↓chain_ap, ↓isi_ap, ↓lc_ap, ↓lstC_ap, ↓mts_ap, ↓yes_ap, ↓il_ap, ↓it_ap, ↓is_ap, ↓ir1_ap, ↓iz_ap, ↓snil_ap, ↓ret_ap, ↓sif_ap, ↓sexpr_ap, ↓bk_ap, ↓ct_ap, ↓asg_ap, ↓for_ap, ↓par_ap, ↓gname_ap, ↓gnil_ap, ↓gcons_ap, ↓gtup_ap, ↓gsub_ap, bR_ok, bR_ex, rt_some, sq_nx, sq_rt, sq_bk, sq_ct, sq_ex, bS_ok, bS_ex, binK1_ap, binK2_ap, tstK_b, notK_ap, andK_t, andK_f, orK_t, orK_f, ifK_t, ifK_f, andV_t, andV_f, orV_t, orV_f, notV_c, consK1_ap, consK2_ap, tupK_ok, lstK_ok, callK_ap, permK_ap, smP_int, slK1_ap, slK2_ap, slK3_ap, sl_lst, sl_scr, sl_tup, chK1_ap, chK2_ap, chK3_t, chK3_f, chK4_ap, isiK_int, isiK_str, isiK_bl, isiK_non, isiK_tup, isiK_lst, mtsK_str, mtsK2_ap, ilK_lst, ilK_scr, itK_tup, isK_str, izK_l, izK_t, retK_ap, sifK_t, sifK_f, sexprK_ap, asgK_ap, bG_ok, forK_ap, parK_ok, gK_ok, subK1_ok, subK2_ok, add_int, sub_int, mod_int, lt_int, le_int, gt_int, ge_int, eq_int, eq_str, eq_bl, eq_is, eq_si, eq_bs, eq_sb, eq_nn, ne_int, ne_str, ne_bl, isn_ap, isN_int, isN_str, isN_bl, isN_tup, isN_lst, isN_non, ix_lst, ix_tup, ix_scr, len_lst, len_tup, int_int, list_lst, list_tup, tuple_lst, tuple_tup, asB_bl, getD0, getDS, set0, setS, at0, atS, map_some', bind_some', List.length_cons, List.length_nil, List.any_cons, List.any_nil, e', ed]
  exact endI_ok rfl (hr d hd)
theorem any_tup {k : Cell} (hk : BagI k) {ds : List D} (h0 : 0 < ds.length) (h1 : ds.length < 1073741824) (hr : ∀ d ∈ ds, noRef d = true) (t : EH) : ∃ d k', F_any [.ref 0, .tup ds] (k :: t) = some (.ok d, k' :: t) ∧ d ∈ ds ∧ BagI k' := by
  obtain ⟨i, k', e, i0, i1, hk'⟩ := pull_ok hk (n := (ds.length : Int)) (by omega) (by omega) t
  obtain ⟨d, hd, ed⟩ := atI_in i0 i1
  refine ⟨d, k', ?_, hd, hk'⟩
  show endI _ (mAny [some (.ref 0), some (.tup ds)] (k :: t)) = _
  have e' : F_pull [.ref 0, .int ds.length] (k :: t) = some (.ok (.int i), k' :: t) := e
  simp only [mAny, ↓seq_ap, ↓var_ap, ↓c_ap, ↓bin_ap, ↓tst_ap, ↓not_ap, ↓and_ap, ↓or_ap, ↓if_ap, ↓andv_ap, ↓orv_ap, ↓notv_ap, ↓nil_ap, ↓cons_ap, ↓tup_ap, ↓lst_ap, ↓call_ap, ↓callP_ap, ↓callI_ap, ↓perm_ap, ↓nop_ap, ↓smp_ap, ↓sl_ap, ↓chain_ap, ↓isi_ap, ↓lc_ap, ↓lstC_ap, ↓mts_ap, ↓yes_ap, ↓il_ap, ↓it_ap, ↓is_ap, ↓ir1_ap, ↓iz_ap, ↓snil_ap, ↓ret_ap, ↓sif_ap, ↓sexpr_ap, ↓bk_ap, ↓ct_ap, ↓asg_ap, ↓for_ap, ↓par_ap, ↓gname_ap, ↓gnil_ap, ↓gcons_ap, ↓gtup_ap, ↓gsub_ap, bR_ok, bR_ex, rt_some, sq_nx, sq_rt, sq_bk, sq_ct, sq_ex, bS_ok, bS_ex, binK1_ap, binK2_ap, tstK_b, notK_ap, andK_t, andK_f, orK_t, orK_f, ifK_t, ifK_f, andV_t, andV_f, orV_t, orV_f, notV_c, consK1_ap, consK2_ap, tupK_ok, lstK_ok, callK_ap, permK_ap, smP_int, slK1_ap, slK2_ap, slK3_ap, sl_lst, sl_scr, sl_tup, chK1_ap, chK2_ap, chK3_t, chK3_f, chK4_ap, isiK_int, isiK_str, isiK_bl, isiK_non, isiK_tup, isiK_lst, mtsK_str, mtsK2_ap, ilK_lst, ilK_scr, itK_tup, isK_str, izK_l, izK_t, retK_ap, sifK_t, sifK_f, sexprK_ap, asgK_ap, bG_ok, forK_ap, parK_ok, gK_ok, subK1_ok, subK2_ok, add_int, sub_int, mod_int, lt_int, le_int, gt_int, ge_int, eq_int, eq_str, eq_bl, eq_is, eq_si, eq_bs, eq_sb, eq_nn, ne_int, ne_str, ne_bl, isn_ap, isN_int, isN_str, isN_bl, isN_tup, isN_lst, isN_non, ix_lst, ix_tup, ix_scr, len_lst, len_tup, int_int, list_lst, list_tup, tuple_lst, tuple_tup, asB_bl, getD0, getDS, set0, setS, at0, atS, map_some', bind_some', List.length_cons, List.length_nil, List.any_cons, List.any_nil, e', ed]
  exact endI_ok rfl (hr d hd)
theorem any_str {k : Cell} (hk : BagI k) {z : List Nat} (h0 : 0 < z.length) (h1 : z.length ≤ 16777216) (t : EH) : ∃ c k', F_any [.ref 0, .str z] (k :: t) = some (.ok (.str [c]), k' :: t) ∧ c ∈ z ∧ BagI k' := by
  obtain ⟨i, k', e, i0, i1, hk'⟩ := pull_ok hk (n := (z.length : Int)) (by omega) (by omega) t
  obtain ⟨c, hd, ed⟩ := atI_in i0 i1
  refine ⟨c, k', ?_, hd, hk'⟩
  show endI _ (mAny [some (.ref 0), some (.str z)] (k :: t)) = _
  have e' : F_pull [.ref 0, .int z.length] (k :: t) = some (.ok (.int i), k' :: t) := e
  simp only [mAny, ↓seq_ap, ↓var_ap, ↓c_ap, ↓bin_ap, ↓tst_ap, ↓not_ap, ↓and_ap, ↓or_ap, ↓if_ap, ↓andv_ap, ↓orv_ap, ↓notv_ap, ↓nil_ap, ↓cons_ap, ↓tup_ap, ↓lst_ap, ↓call_ap, ↓callP_ap, ↓callI_ap, ↓perm_ap, ↓nop_ap, ↓smp_ap, ↓sl_ap, ↓chain_ap, ↓isi_ap, ↓lc_ap, ↓lstC_ap, ↓mts_ap, ↓yes_ap, ↓il_ap, ↓it_ap, ↓is_ap, ↓ir1_ap, ↓iz_ap, ↓snil_ap, ↓ret_ap, ↓sif_ap, ↓sexpr_ap, ↓bk_ap, ↓ct_ap, ↓asg_ap, ↓for_ap, ↓par_ap, ↓gname_ap, ↓gnil_ap, ↓gcons_ap, ↓gtup_ap, ↓gsub_ap, bR_ok, bR_ex, rt_some, sq_nx, sq_rt, sq_bk, sq_ct, sq_ex, bS_ok, bS_ex, binK1_ap, binK2_ap, tstK_b, notK_ap, andK_t, andK_f, orK_t, orK_f, ifK_t, ifK_f, andV_t, andV_f, orV_t, orV_f, notV_c, consK1_ap, consK2_ap, tupK_ok, lstK_ok, callK_ap, permK_ap, smP_int, slK1_ap, slK2_ap, slK3_ap, sl_lst, sl_scr, sl_tup, chK1_ap, chK2_ap, chK3_t, chK3_f, chK4_ap, isiK_int, isiK_str, isiK_bl, isiK_non, isiK_tup, isiK_lst, mtsK_str, mtsK2_ap, ilK_lst, ilK_scr, itK_tup, isK_str, izK_l, izK_t, retK_ap, sifK_t, sifK_f, sexprK_ap, asgK_ap, bG_ok, forK_ap, parK_ok, gK_ok, subK1_ok, subK2_ok, add_int, sub_int, mod_int, lt_int, le_int, gt_int, ge_int, eq_int, eq_str, eq_bl, eq_is, eq_si, eq_bs, eq_sb, eq_nn, ne_int, ne_str, ne_bl, isn_ap, isN_int, isN_str, isN_bl, isN_tup, isN_lst, isN_non, ix_lst, ix_tup, ix_scr, len_lst, len_tup, int_int, list_lst, list_tup, tuple_lst, tuple_tup, asB_bl, getD0, getDS, set0, setS, at0, atS, map_some', bind_some', List.length_cons, List.length_nil, List.any_cons, List.any_nil, len_str h1, ix_str h1, e', ed]
  exact endI_ok rfl rfl

/-! ## draws -/
def mDraws : MS :=
    (msSeq (msAsg (mC (.int 5648)) (mgName 1))
    (msSeq (msFor (miL (mSl (mVar 0) mNoP (mSmP (mC (.int 63))))) (mgName 2) (msAsg (mBin dMod (mCall dInt (mCons (mBin dAdd (mBin dAdd (mBin dMul (mVar 1) (mC (.int 44021))) (mBin dMod (mCall dInt (mCons (mVar 2) mNil)) (mC (.int 2147483489)))) (mC (.int 53))) mNil)) (mC (.int 2147483549))) (mgName 1)))
    (msRet (mLstC (mCons (mCall dList (mCons (mSl (mVar 0) mNoP (mSmP (mC (.int 63)))) mNil)) (mCons (mC (.int 0)) (mCons (mC (.int 0)) (mCons (mVar 1) (mCons (mC (.int 0)) mNil)))))))))
def F_draws : IF := runA 3 mDraws
theorem draws_loop {x : D} : ∀ (ns : List Int) (s : Int) (o : Option D), 0 ≤ s → s < 2147483549 → ∃ s' o', forL (mgName 2) (msAsg (mBin dMod (mCall dInt (mCons (mBin dAdd (mBin dAdd (mBin dMul (mVar 1) (mC (.int 44021))) (mBin dMod (mCall dInt (mCons (mVar 2) mNil)) (mC (.int 2147483489)))) (mC (.int 53))) mNil)) (mC (.int 2147483549))) (mgName 1)) (ns.map .int) [some x, some (.int s), o] [] = some (.nx [some x, some (.int s'), o'], []) ∧ 0 ≤ s' ∧ s' < 2147483549
  | [], s, o, h0, h1 => ⟨s, o, rfl, h0, h1⟩
  | n :: ns, s, o, h0, h1 => by
    obtain ⟨s', o', e, r⟩ := draws_loop ns ((s * 44021 + n % 2147483489 + 53) % 2147483549) (some (.int n)) (Int.emod_nonneg _ (by decide)) (Int.emod_lt_of_pos _ (by decide))
    refine ⟨s', o', ?_, r⟩
    rw [List.map_cons]
    unfold forL
    simp only [↓seq_ap, ↓var_ap, ↓c_ap, ↓bin_ap, ↓tst_ap, ↓not_ap, ↓and_ap, ↓or_ap, ↓if_ap, ↓andv_ap, ↓orv_ap, ↓notv_ap, ↓nil_ap, ↓cons_ap, ↓tup_ap, ↓lst_ap, ↓call_ap, ↓callP_ap, ↓callI_ap, ↓perm_ap, ↓nop_ap, ↓smp_ap, ↓sl_ap, ↓chain_ap, ↓isi_ap, ↓lc_ap, ↓lstC_ap, ↓mts_ap, ↓yes_ap, ↓il_ap, ↓it_ap, ↓is_ap, ↓ir1_ap, ↓iz_ap, ↓snil_ap, ↓ret_ap, ↓sif_ap, ↓sexpr_ap, ↓bk_ap, ↓ct_ap, ↓asg_ap, ↓for_ap, ↓par_ap, ↓gname_ap, ↓gnil_ap, ↓gcons_ap, ↓gtup_ap, ↓gsub_ap, bR_ok, bR_ex, rt_some, sq_nx, sq_rt, sq_bk, sq_ct, sq_ex, bS_ok, bS_ex, binK1_ap, binK2_ap, tstK_b, notK_ap, andK_t, andK_f, orK_t, orK_f, ifK_t, ifK_f, andV_t, andV_f, orV_t, orV_f, notV_c, consK1_ap, consK2_ap, tupK_ok, lstK_ok, callK_ap, permK_ap, smP_int, slK1_ap, slK2_ap, slK3_ap, sl_lst, sl_scr, sl_tup, chK1_ap, chK2_ap, chK3_t, chK3_f, chK4_ap, isiK_int, isiK_str, isiK_bl, isiK_non, isiK_tup, isiK_lst, mtsK_str, mtsK2_ap, ilK_lst, ilK_scr, itK_tup, isK_str, izK_l, izK_t, retK_ap, sifK_t, sifK_f, sexprK_ap, asgK_ap, bG_ok, forK_ap, parK_ok, gK_ok, subK1_ok, subK2_ok, add_int, sub_int, mod_int, lt_int, le_int, gt_int, ge_int, eq_int, eq_str, eq_bl, eq_is, eq_si, eq_bs, eq_sb, eq_nn, ne_int, ne_str, ne_bl, isn_ap, isN_int, isN_str, isN_bl, isN_tup, isN_lst, isN_non, ix_lst, ix_tup, ix_scr, len_lst, len_tup, int_int, list_lst, list_tup, tuple_lst, tuple_tup, asB_bl, getD0, getDS, set0, setS, at0, atS, map_some', bind_some', List.length_cons, List.length_nil, List.any_cons, List.any_nil, decide_true, decide_false, and_self, Nat.reduceLeDiff, Nat.reduceAdd, if_true, Int.reduceLT, Int.reduceNeg, Int.reducePow, Int.reduceToNat, Int.reduceLE, Nat.reduceLT, Int.reduceAdd, Int.reduceSub, Bool.not_true, Bool.not_false, Int.reduceEq, bne_self_eq_false, Bool.false_bne, Bool.true_bne, Int.reduceBNe, mul_rc]
    exact e
theorem cut63 {α : Type} {ns : List α} (h : ns.length ≤ 63) : cutD ns none (some 63) = ns := by
  unfold cutD
  have e1 : HT.sIx ns.length 0 none = 0 := rfl
  have e2 : HT.sIx ns.length ns.length (some 63) = ns.length := by
    show (if (63 : Int) < 0 then ((63 : Int) + (ns.length : Int)).toNat else min (63 : Int).toNat ns.length) = _
    rw [if_neg (by decide)]
    show min 63 ns.length = _
    omega
  rw [e1, e2]
  simp
theorem draws_ok {ns : List Int} (h : ns.length ≤ 63) : ∃ k, F_draws [.scr (ns.map .int)] [] = some (.ok (.ref 0), [k]) ∧ BagI k := by
  obtain ⟨s', o', e, r0, r1⟩ := draws_loop (x := .scr (ns.map .int)) ns 5648 none (by decide) (by decide)
  refine ⟨bagC (ns.map .int) 0 0 s' 0, ?_, ⟨_, _, _, _, _, rfl, h, by decide, by decide, r0, r1⟩⟩
  show endA _ (mDraws [some (.scr (ns.map .int)), none, none] []) = _
  have l : (ns.map D.int).length ≤ 63 := by simpa using h
  simp only [mDraws, ↓seq_ap, ↓var_ap, ↓c_ap, ↓bin_ap, ↓tst_ap, ↓not_ap, ↓and_ap, ↓or_ap, ↓if_ap, ↓andv_ap, ↓orv_ap, ↓notv_ap, ↓nil_ap, ↓cons_ap, ↓tup_ap, ↓lst_ap, ↓call_ap, ↓callP_ap, ↓callI_ap, ↓perm_ap, ↓nop_ap, ↓smp_ap, ↓sl_ap, ↓chain_ap, ↓isi_ap, ↓lc_ap, ↓lstC_ap, ↓mts_ap, ↓yes_ap, ↓il_ap, ↓it_ap, ↓is_ap, ↓ir1_ap, ↓iz_ap, ↓snil_ap, ↓ret_ap, ↓sif_ap, ↓sexpr_ap, ↓bk_ap, ↓ct_ap, ↓asg_ap, ↓for_ap, ↓par_ap, ↓gname_ap, ↓gnil_ap, ↓gcons_ap, ↓gtup_ap, ↓gsub_ap, bR_ok, bR_ex, rt_some, sq_nx, sq_rt, sq_bk, sq_ct, sq_ex, bS_ok, bS_ex, binK1_ap, binK2_ap, tstK_b, notK_ap, andK_t, andK_f, orK_t, orK_f, ifK_t, ifK_f, andV_t, andV_f, orV_t, orV_f, notV_c, consK1_ap, consK2_ap, tupK_ok, lstK_ok, callK_ap, permK_ap, smP_int, slK1_ap, slK2_ap, slK3_ap, sl_lst, sl_scr, sl_tup, chK1_ap, chK2_ap, chK3_t, chK3_f, chK4_ap, isiK_int, isiK_str, isiK_bl, isiK_non, isiK_tup, isiK_lst, mtsK_str, mtsK2_ap, ilK_lst, ilK_scr, itK_tup, isK_str, izK_l, izK_t, retK_ap, sifK_t, sifK_f, sexprK_ap, asgK_ap, bG_ok, forK_ap, parK_ok, gK_ok, subK1_ok, subK2_ok, add_int, sub_int, mod_int, lt_int, le_int, gt_int, ge_int, eq_int, eq_str, eq_bl, eq_is, eq_si, eq_bs, eq_sb, eq_nn, ne_int, ne_str, ne_bl, isn_ap, isN_int, isN_str, isN_bl, isN_tup, isN_lst, isN_non, ix_lst, ix_tup, ix_scr, len_lst, len_tup, int_int, list_lst, list_tup, tuple_lst, tuple_tup, asB_bl, getD0, getDS, set0, setS, at0, atS, map_some', bind_some', List.length_cons, List.length_nil, List.any_cons, List.any_nil, decide_true, decide_false, and_self, Nat.reduceLeDiff, Nat.reduceAdd, if_true, Int.reduceLT, Int.reduceNeg, Int.reducePow, Int.reduceToNat, Int.reduceLE, Nat.reduceLT, Int.reduceAdd, Int.reduceSub, Bool.not_true, Bool.not_false, Int.reduceEq, bne_self_eq_false, Bool.false_bne, Bool.true_bne, Int.reduceBNe, cut63 l, e, lstCK_ok]
  rfl

/-! ## like -/
def mLike (F : PF) : MS :=
    (msSeq (msIf (mTst (mIsi [.lst, .tup] (mVar 1))) (msSeq (msAsg (mAndV (mBin dEq (mIsi [.lst] (mVar 0)) (mIsi [.lst] (mVar 1))) (mBin dEq (mIsi [.tup] (mVar 0)) (mIsi [.tup] (mVar 1)))) (mgName 2))
    (msRet (mAndV (mVar 2) (mAndV (mBin dEq (mCall dLen (mCons (mVar 0) mNil)) (mCall dLen (mCons (mVar 1) mNil))) (mCall dAll (mCons (mLc [3, 4] (miZip (mCons (mVar 0) (mCons (mVar 1) mNil))) (mgTup 2 (mgCons (mgName 3) (mgCons (mgName 4) mgNil))) mYes (mCallP F (mCons (mVar 3) (mCons (mVar 4) mNil)))) mNil)))))) msNil)
    (msSeq (msIf (mOr (mTst (mBin (dIsN false) (mVar 0) (mC .non))) (mOr (mTst (mBin (dIsN false) (mVar 1) (mC .non))) (mTst (mBin dNe (mIsi [.bool] (mVar 0)) (mIsi [.bool] (mVar 1)))))) (msRet (mAndV (mBin (dIsN false) (mVar 0) (mC .non)) (mBin (dIsN false) (mVar 1) (mC .non)))) msNil)
    (msRet (mAndV (mBin dEq (mIsi [.int] (mVar 0)) (mIsi [.int] (mVar 1))) (mAndV (mBin dEq (mIsi [.str] (mVar 0)) (mIsi [.str] (mVar 1))) (mBin dEq (mVar 0) (mVar 1)))))))
def F_like_ : Nat → PF
  | 0 => fun _ => none
  | t + 1 => runP 5 (mLike (F_like_ t))
/-- data of a depth -/
def okD : Nat → D → Bool
  | 0, _ => false
  | _ + 1, .non => true
  | _ + 1, .bl _ => true
  | _ + 1, .int _ => true
  | _ + 1, .str _ => true
  | t + 1, .tup ds => decide (ds.length ≤ 16777216) && ds.all (okD t)
  | t + 1, .lst ds => decide (ds.length ≤ 16777216) && ds.all (okD t)
  | _ + 1, _ => false
theorem noRef_all : ∀ {ds : List D}, (∀ d ∈ ds, noRef d = true) → noRef.go ds = true
  | [], _ => rfl
  | d :: ds, h => by
    rw [noRef.go, h d List.mem_cons_self, noRef_all fun x hx => h x (List.mem_cons_of_mem _ hx)]; rfl
theorem okD_noRef : ∀ {t : Nat} {d : D}, okD t d = true → noRef d = true
  | 0, _, e => by cases e
  | t + 1, .non, _ => rfl
  | t + 1, .bl _, _ => rfl
  | t + 1, .int _, _ => rfl
  | t + 1, .str _, _ => rfl
  | t + 1, .tup ds, e => by
    rw [noRef]
    exact noRef_all fun d hd => okD_noRef (t := t) (List.all_eq_true.mp (Bool.and_eq_true_iff.mp (show (decide (ds.length ≤ 16777216) && ds.all (okD t)) = true from e)).2 d hd)
  | t + 1, .lst ds, e => by
    rw [noRef]
    exact noRef_all fun d hd => okD_noRef (t := t) (List.all_eq_true.mp (Bool.and_eq_true_iff.mp (show (decide (ds.length ≤ 16777216) && ds.all (okD t)) = true from e)).2 d hd)
  | t + 1, .scr _, e => by cases e
  | t + 1, .dic _ _, e => by cases e
  | t + 1, .obj _ _, e => by cases e
  | t + 1, .ref _, e => by cases e
theorem okD_up : ∀ {t : Nat} {d : D}, okD t d = true → okD (t + 1) d = true
  | 0, _, e => by cases e
  | t + 1, .non, _ => rfl
  | t + 1, .bl _, _ => rfl
  | t + 1, .int _, _ => rfl
  | t + 1, .str _, _ => rfl
  | t + 1, .tup ds, e => by
    have e' := Bool.and_eq_true_iff.mp (show (decide (ds.length ≤ 16777216) && ds.all (okD t)) = true from e)
    exact Bool.and_eq_true_iff.mpr ⟨e'.1, List.all_eq_true.mpr fun d hd => okD_up (List.all_eq_true.mp e'.2 d hd)⟩
  | t + 1, .lst ds, e => by
    have e' := Bool.and_eq_true_iff.mp (show (decide (ds.length ≤ 16777216) && ds.all (okD t)) = true from e)
    exact Bool.and_eq_true_iff.mpr ⟨e'.1, List.all_eq_true.mpr fun d hd => okD_up (List.all_eq_true.mp e'.2 d hd)⟩
  | t + 1, .scr _, e => by cases e
  | t + 1, .dic _ _, e => by cases e
  | t + 1, .obj _ _, e => by cases e
  | t + 1, .ref _, e => by cases e
theorem okD_le {t u : Nat} {d : D} (h : okD t d = true) (l : t ≤ u) : okD u d = true := by
  induction l with
  | refl => exact h
  | step _ ih => exact okD_up ih
theorem zip_self : ∀ ds : List D, zipD ds ds = ds.map fun d => .tup [d, d]
  | [] => rfl
  | d :: ds => by
    have := zip_self ds
    unfold zipD at this ⊢
    rw [List.zip_cons_cons, List.map_cons, this, List.map_cons]
theorem like_lc {t : Nat} {ds : List D} {a b c : Option D} (hl : ds.length ≤ 16777216) (hd : ∀ d ∈ ds, noRef d = true) (ih : ∀ d ∈ ds, F_like_ t [d, d] = some (.ok (.bl true))) :
    lcL (mgTup 2 (mgCons (mgName 3) (mgCons (mgName 4) mgNil))) mYes (mCallP (F_like_ t) (mCons (mVar 3) (mCons (mVar 4) mNil))) (zipD ds ds) [a, b, c, none, none] [] = some (ds.map fun _ => .bl true, []) := by
  have := lcL_map (g := mgTup 2 (mgCons (mgName 3) (mgCons (mgName 4) mgNil))) (t := mYes) (e := mCallP (F_like_ t) (mCons (mVar 3) (mCons (mVar 4) mNil))) (fun _ => .bl true) (ε := [a, b, c, none, none]) (h := []) (ds := zipD ds ds) fun x hx => by
    rw [zip_self] at hx
    obtain ⟨d, hd1, rfl⟩ := List.mem_map.mp hx
    refine ⟨[a, b, c, some d, some d], rfl, rfl, ?_⟩
    have e2 : noRef.go [d, d] = true := by rw [noRef.go, noRef.go, hd d hd1]; rfl
    simp only [↓seq_ap, ↓var_ap, ↓c_ap, ↓bin_ap, ↓tst_ap, ↓not_ap, ↓and_ap, ↓or_ap, ↓if_ap, ↓andv_ap, ↓orv_ap, ↓notv_ap, ↓nil_ap, ↓cons_ap, ↓tup_ap, ↓lst_ap, ↓call_ap, ↓callP_ap, ↓callI_ap, ↓perm_ap, ↓nop_ap, ↓smp_ap, ↓sl_ap, ↓chain_ap, ↓isi_ap, ↓lc_ap, ↓lstC_ap, ↓mts_ap, ↓yes_ap, ↓il_ap, ↓it_ap, ↓is_ap, ↓ir1_ap, ↓iz_ap, ↓snil_ap, ↓ret_ap, ↓sif_ap, ↓sexpr_ap, ↓bk_ap, ↓ct_ap, ↓asg_ap, ↓for_ap, ↓par_ap, ↓gname_ap, ↓gnil_ap, ↓gcons_ap, ↓gtup_ap, ↓gsub_ap, bR_ok, bR_ex, rt_some, sq_nx, sq_rt, sq_bk, sq_ct, sq_ex, bS_ok, bS_ex, binK1_ap, binK2_ap, tstK_b, notK_ap, andK_t, andK_f, orK_t, orK_f, ifK_t, ifK_f, andV_t, andV_f, orV_t, orV_f, notV_c, consK1_ap, consK2_ap, tupK_ok, lstK_ok, callK_ap, permK_ap, smP_int, slK1_ap, slK2_ap, slK3_ap, sl_lst, sl_scr, sl_tup, chK1_ap, chK2_ap, chK3_t, chK3_f, chK4_ap, isiK_int, isiK_str, isiK_bl, isiK_non, isiK_tup, isiK_lst, mtsK_str, mtsK2_ap, ilK_lst, ilK_scr, itK_tup, isK_str, izK_l, izK_t, retK_ap, sifK_t, sifK_f, sexprK_ap, asgK_ap, bG_ok, forK_ap, parK_ok, gK_ok, subK1_ok, subK2_ok, add_int, sub_int, mod_int, lt_int, le_int, gt_int, ge_int, eq_int, eq_str, eq_bl, eq_is, eq_si, eq_bs, eq_sb, eq_nn, ne_int, ne_str, ne_bl, isn_ap, isN_int, isN_str, isN_bl, isN_tup, isN_lst, isN_non, ix_lst, ix_tup, ix_scr, len_lst, len_tup, int_int, list_lst, list_tup, tuple_lst, tuple_tup, asB_bl, getD0, getDS, set0, setS, at0, atS, map_some', bind_some', List.length_cons, List.length_nil, List.any_cons, List.any_nil, callPK_ok (ih d hd1) e2]
  rw [this, zip_self, List.map_map]
  rfl
theorem like_refl : ∀ {t : Nat} {d : D}, okD t d = true → F_like_ t [d, d] = some (.ok (.bl true))
  | 0, _, e => by cases e
  | t + 1, .non, _ => by
    show endP (mLike (F_like_ t) [some .non, some .non, none, none, none] []) = _
    simp only [mLike, ↓seq_ap, ↓var_ap, ↓c_ap, ↓bin_ap, ↓tst_ap, ↓not_ap, ↓and_ap, ↓or_ap, ↓if_ap, ↓andv_ap, ↓orv_ap, ↓notv_ap, ↓nil_ap, ↓cons_ap, ↓tup_ap, ↓lst_ap, ↓call_ap, ↓callP_ap, ↓callI_ap, ↓perm_ap, ↓nop_ap, ↓smp_ap, ↓sl_ap, ↓chain_ap, ↓isi_ap, ↓lc_ap, ↓lstC_ap, ↓mts_ap, ↓yes_ap, ↓il_ap, ↓it_ap, ↓is_ap, ↓ir1_ap, ↓iz_ap, ↓snil_ap, ↓ret_ap, ↓sif_ap, ↓sexpr_ap, ↓bk_ap, ↓ct_ap, ↓asg_ap, ↓for_ap, ↓par_ap, ↓gname_ap, ↓gnil_ap, ↓gcons_ap, ↓gtup_ap, ↓gsub_ap, bR_ok, bR_ex, rt_some, sq_nx, sq_rt, sq_bk, sq_ct, sq_ex, bS_ok, bS_ex, binK1_ap, binK2_ap, tstK_b, notK_ap, andK_t, andK_f, orK_t, orK_f, ifK_t, ifK_f, andV_t, andV_f, orV_t, orV_f, notV_c, consK1_ap, consK2_ap, tupK_ok, lstK_ok, callK_ap, permK_ap, smP_int, slK1_ap, slK2_ap, slK3_ap, sl_lst, sl_scr, sl_tup, chK1_ap, chK2_ap, chK3_t, chK3_f, chK4_ap, isiK_int, isiK_str, isiK_bl, isiK_non, isiK_tup, isiK_lst, mtsK_str, mtsK2_ap, ilK_lst, ilK_scr, itK_tup, isK_str, izK_l, izK_t, retK_ap, sifK_t, sifK_f, sexprK_ap, asgK_ap, bG_ok, forK_ap, parK_ok, gK_ok, subK1_ok, subK2_ok, add_int, sub_int, mod_int, lt_int, le_int, gt_int, ge_int, eq_int, eq_str, eq_bl, eq_is, eq_si, eq_bs, eq_sb, eq_nn, ne_int, ne_str, ne_bl, isn_ap, isN_int, isN_str, isN_bl, isN_tup, isN_lst, isN_non, ix_lst, ix_tup, ix_scr, len_lst, len_tup, int_int, list_lst, list_tup, tuple_lst, tuple_tup, asB_bl, getD0, getDS, set0, setS, at0, atS, map_some', bind_some', List.length_cons, List.length_nil, List.any_cons, List.any_nil, decide_true, decide_false, and_self, Nat.reduceLeDiff, Nat.reduceAdd, if_true, Int.reduceLT, Int.reduceNeg, Int.reducePow, Int.reduceToNat, Int.reduceLE, Nat.reduceLT, Int.reduceAdd, Int.reduceSub, Bool.not_true, Bool.not_false, Int.reduceEq, bne_self_eq_false, Bool.false_bne, Bool.true_bne, Int.reduceBNe, isa, Bool.or_false, Bool.or_true, Bool.and_true, Bool.and_false, Bool.or_self]
    exact endP_ok rfl
  | t + 1, .bl b, _ => by
    show endP (mLike (F_like_ t) [some (.bl b), some (.bl b), none, none, none] []) = _
    simp only [mLike, ↓seq_ap, ↓var_ap, ↓c_ap, ↓bin_ap, ↓tst_ap, ↓not_ap, ↓and_ap, ↓or_ap, ↓if_ap, ↓andv_ap, ↓orv_ap, ↓notv_ap, ↓nil_ap, ↓cons_ap, ↓tup_ap, ↓lst_ap, ↓call_ap, ↓callP_ap, ↓callI_ap, ↓perm_ap, ↓nop_ap, ↓smp_ap, ↓sl_ap, ↓chain_ap, ↓isi_ap, ↓lc_ap, ↓lstC_ap, ↓mts_ap, ↓yes_ap, ↓il_ap, ↓it_ap, ↓is_ap, ↓ir1_ap, ↓iz_ap, ↓snil_ap, ↓ret_ap, ↓sif_ap, ↓sexpr_ap, ↓bk_ap, ↓ct_ap, ↓asg_ap, ↓for_ap, ↓par_ap, ↓gname_ap, ↓gnil_ap, ↓gcons_ap, ↓gtup_ap, ↓gsub_ap, bR_ok, bR_ex, rt_some, sq_nx, sq_rt, sq_bk, sq_ct, sq_ex, bS_ok, bS_ex, binK1_ap, binK2_ap, tstK_b, notK_ap, andK_t, andK_f, orK_t, orK_f, ifK_t, ifK_f, andV_t, andV_f, orV_t, orV_f, notV_c, consK1_ap, consK2_ap, tupK_ok, lstK_ok, callK_ap, permK_ap, smP_int, slK1_ap, slK2_ap, slK3_ap, sl_lst, sl_scr, sl_tup, chK1_ap, chK2_ap, chK3_t, chK3_f, chK4_ap, isiK_int, isiK_str, isiK_bl, isiK_non, isiK_tup, isiK_lst, mtsK_str, mtsK2_ap, ilK_lst, ilK_scr, itK_tup, isK_str, izK_l, izK_t, retK_ap, sifK_t, sifK_f, sexprK_ap, asgK_ap, bG_ok, forK_ap, parK_ok, gK_ok, subK1_ok, subK2_ok, add_int, sub_int, mod_int, lt_int, le_int, gt_int, ge_int, eq_int, eq_str, eq_bl, eq_is, eq_si, eq_bs, eq_sb, eq_nn, ne_int, ne_str, ne_bl, isn_ap, isN_int, isN_str, isN_bl, isN_tup, isN_lst, isN_non, ix_lst, ix_tup, ix_scr, len_lst, len_tup, int_int, list_lst, list_tup, tuple_lst, tuple_tup, asB_bl, getD0, getDS, set0, setS, at0, atS, map_some', bind_some', List.length_cons, List.length_nil, List.any_cons, List.any_nil, decide_true, decide_false, and_self, Nat.reduceLeDiff, Nat.reduceAdd, if_true, Int.reduceLT, Int.reduceNeg, Int.reducePow, Int.reduceToNat, Int.reduceLE, Nat.reduceLT, Int.reduceAdd, Int.reduceSub, Bool.not_true, Bool.not_false, Int.reduceEq, bne_self_eq_false, Bool.false_bne, Bool.true_bne, Int.reduceBNe, isa, Bool.or_false, Bool.or_true, Bool.and_true, Bool.and_false, Bool.or_self]
    exact endP_ok rfl
  | t + 1, .int i, _ => by
    show endP (mLike (F_like_ t) [some (.int i), some (.int i), none, none, none] []) = _
    simp only [mLike, ↓seq_ap, ↓var_ap, ↓c_ap, ↓bin_ap, ↓tst_ap, ↓not_ap, ↓and_ap, ↓or_ap, ↓if_ap, ↓andv_ap, ↓orv_ap, ↓notv_ap, ↓nil_ap, ↓cons_ap, ↓tup_ap, ↓lst_ap, ↓call_ap, ↓callP_ap, ↓callI_ap, ↓perm_ap, ↓nop_ap, ↓smp_ap, ↓sl_ap, ↓chain_ap, ↓isi_ap, ↓lc_ap, ↓lstC_ap, ↓mts_ap, ↓yes_ap, ↓il_ap, ↓it_ap, ↓is_ap, ↓ir1_ap, ↓iz_ap, ↓snil_ap, ↓ret_ap, ↓sif_ap, ↓sexpr_ap, ↓bk_ap, ↓ct_ap, ↓asg_ap, ↓for_ap, ↓par_ap, ↓gname_ap, ↓gnil_ap, ↓gcons_ap, ↓gtup_ap, ↓gsub_ap, bR_ok, bR_ex, rt_some, sq_nx, sq_rt, sq_bk, sq_ct, sq_ex, bS_ok, bS_ex, binK1_ap, binK2_ap, tstK_b, notK_ap, andK_t, andK_f, orK_t, orK_f, ifK_t, ifK_f, andV_t, andV_f, orV_t, orV_f, notV_c, consK1_ap, consK2_ap, tupK_ok, lstK_ok, callK_ap, permK_ap, smP_int, slK1_ap, slK2_ap, slK3_ap, sl_lst, sl_scr, sl_tup, chK1_ap, chK2_ap, chK3_t, chK3_f, chK4_ap, isiK_int, isiK_str, isiK_bl, isiK_non, isiK_tup, isiK_lst, mtsK_str, mtsK2_ap, ilK_lst, ilK_scr, itK_tup, isK_str, izK_l, izK_t, retK_ap, sifK_t, sifK_f, sexprK_ap, asgK_ap, bG_ok, forK_ap, parK_ok, gK_ok, subK1_ok, subK2_ok, add_int, sub_int, mod_int, lt_int, le_int, gt_int, ge_int, eq_int, eq_str, eq_bl, eq_is, eq_si, eq_bs, eq_sb, eq_nn, ne_int, ne_str, ne_bl, isn_ap, isN_int, isN_str, isN_bl, isN_tup, isN_lst, isN_non, ix_lst, ix_tup, ix_scr, len_lst, len_tup, int_int, list_lst, list_tup, tuple_lst, tuple_tup, asB_bl, getD0, getDS, set0, setS, at0, atS, map_some', bind_some', List.length_cons, List.length_nil, List.any_cons, List.any_nil, decide_true, decide_false, and_self, Nat.reduceLeDiff, Nat.reduceAdd, if_true, Int.reduceLT, Int.reduceNeg, Int.reducePow, Int.reduceToNat, Int.reduceLE, Nat.reduceLT, Int.reduceAdd, Int.reduceSub, Bool.not_true, Bool.not_false, Int.reduceEq, bne_self_eq_false, Bool.false_bne, Bool.true_bne, Int.reduceBNe, isa, Bool.or_false, Bool.or_true, Bool.and_true, Bool.and_false, Bool.or_self]
    exact endP_ok rfl
  | t + 1, .str z, _ => by
    show endP (mLike (F_like_ t) [some (.str z), some (.str z), none, none, none] []) = _
    simp only [mLike, ↓seq_ap, ↓var_ap, ↓c_ap, ↓bin_ap, ↓tst_ap, ↓not_ap, ↓and_ap, ↓or_ap, ↓if_ap, ↓andv_ap, ↓orv_ap, ↓notv_ap, ↓nil_ap, ↓cons_ap, ↓tup_ap, ↓lst_ap, ↓call_ap, ↓callP_ap, ↓callI_ap, ↓perm_ap, ↓nop_ap, ↓smp_ap, ↓sl_ap, ↓chain_ap, ↓isi_ap, ↓lc_ap, ↓lstC_ap, ↓mts_ap, ↓yes_ap, ↓il_ap, ↓it_ap, ↓is_ap, ↓ir1_ap, ↓iz_ap, ↓snil_ap, ↓ret_ap, ↓sif_ap, ↓sexpr_ap, ↓bk_ap, ↓ct_ap, ↓asg_ap, ↓for_ap, ↓par_ap, ↓gname_ap, ↓gnil_ap, ↓gcons_ap, ↓gtup_ap, ↓gsub_ap, bR_ok, bR_ex, rt_some, sq_nx, sq_rt, sq_bk, sq_ct, sq_ex, bS_ok, bS_ex, binK1_ap, binK2_ap, tstK_b, notK_ap, andK_t, andK_f, orK_t, orK_f, ifK_t, ifK_f, andV_t, andV_f, orV_t, orV_f, notV_c, consK1_ap, consK2_ap, tupK_ok, lstK_ok, callK_ap, permK_ap, smP_int, slK1_ap, slK2_ap, slK3_ap, sl_lst, sl_scr, sl_tup, chK1_ap, chK2_ap, chK3_t, chK3_f, chK4_ap, isiK_int, isiK_str, isiK_bl, isiK_non, isiK_tup, isiK_lst, mtsK_str, mtsK2_ap, ilK_lst, ilK_scr, itK_tup, isK_str, izK_l, izK_t, retK_ap, sifK_t, sifK_f, sexprK_ap, asgK_ap, bG_ok, forK_ap, parK_ok, gK_ok, subK1_ok, subK2_ok, add_int, sub_int, mod_int, lt_int, le_int, gt_int, ge_int, eq_int, eq_str, eq_bl, eq_is, eq_si, eq_bs, eq_sb, eq_nn, ne_int, ne_str, ne_bl, isn_ap, isN_int, isN_str, isN_bl, isN_tup, isN_lst, isN_non, ix_lst, ix_tup, ix_scr, len_lst, len_tup, int_int, list_lst, list_tup, tuple_lst, tuple_tup, asB_bl, getD0, getDS, set0, setS, at0, atS, map_some', bind_some', List.length_cons, List.length_nil, List.any_cons, List.any_nil, decide_true, decide_false, and_self, Nat.reduceLeDiff, Nat.reduceAdd, if_true, Int.reduceLT, Int.reduceNeg, Int.reducePow, Int.reduceToNat, Int.reduceLE, Nat.reduceLT, Int.reduceAdd, Int.reduceSub, Bool.not_true, Bool.not_false, Int.reduceEq, bne_self_eq_false, Bool.false_bne, Bool.true_bne, Int.reduceBNe, isa, Bool.or_false, Bool.or_true, Bool.and_true, Bool.and_false, Bool.or_self]
    exact endP_ok rfl
  | t + 1, .tup ds, e => by
    obtain ⟨e1, e2⟩ := Bool.and_eq_true_iff.mp (show (decide (ds.length ≤ 16777216) && ds.all (okD t)) = true from e)
    have hl : ds.length ≤ 16777216 := of_decide_eq_true e1
    have hA := List.all_eq_true.mp e2
    have lc := like_lc (t := t) (a := some (.tup ds)) (b := some (.tup ds)) (c := some (.bl true)) hl (fun d hd => okD_noRef (hA d hd)) fun d hd => like_refl (hA d hd)
    have lk := lcK_ok (vs := [3, 4]) (ε := [some (.tup ds), some (.tup ds), some (.bl true), none, none]) (h := []) lc (by simpa using hl)
    show endP (mLike (F_like_ t) [some (.tup ds), some (.tup ds), none, none, none] []) = _
    simp only [mLike, ↓seq_ap, ↓var_ap, ↓c_ap, ↓bin_ap, ↓tst_ap, ↓not_ap, ↓and_ap, ↓or_ap, ↓if_ap, ↓andv_ap, ↓orv_ap, ↓notv_ap, ↓nil_ap, ↓cons_ap, ↓tup_ap, ↓lst_ap, ↓call_ap, ↓callP_ap, ↓callI_ap, ↓perm_ap, ↓nop_ap, ↓smp_ap, ↓sl_ap, ↓chain_ap, ↓isi_ap, ↓lc_ap, ↓lstC_ap, ↓mts_ap, ↓yes_ap, ↓il_ap, ↓it_ap, ↓is_ap, ↓ir1_ap, ↓iz_ap, ↓snil_ap, ↓ret_ap, ↓sif_ap, ↓sexpr_ap, ↓bk_ap, ↓ct_ap, ↓asg_ap, ↓for_ap, ↓par_ap, ↓gname_ap, ↓gnil_ap, ↓gcons_ap, ↓gtup_ap, ↓gsub_ap, bR_ok, bR_ex, rt_some, sq_nx, sq_rt, sq_bk, sq_ct, sq_ex, bS_ok, bS_ex, binK1_ap, binK2_ap, tstK_b, notK_ap, andK_t, andK_f, orK_t, orK_f, ifK_t, ifK_f, andV_t, andV_f, orV_t, orV_f, notV_c, consK1_ap, consK2_ap, tupK_ok, lstK_ok, callK_ap, permK_ap, smP_int, slK1_ap, slK2_ap, slK3_ap, sl_lst, sl_scr, sl_tup, chK1_ap, chK2_ap, chK3_t, chK3_f, chK4_ap, isiK_int, isiK_str, isiK_bl, isiK_non, isiK_tup, isiK_lst, mtsK_str, mtsK2_ap, ilK_lst, ilK_scr, itK_tup, isK_str, izK_l, izK_t, retK_ap, sifK_t, sifK_f, sexprK_ap, asgK_ap, bG_ok, forK_ap, parK_ok, gK_ok, subK1_ok, subK2_ok, add_int, sub_int, mod_int, lt_int, le_int, gt_int, ge_int, eq_int, eq_str, eq_bl, eq_is, eq_si, eq_bs, eq_sb, eq_nn, ne_int, ne_str, ne_bl, isn_ap, isN_int, isN_str, isN_bl, isN_tup, isN_lst, isN_non, ix_lst, ix_tup, ix_scr, len_lst, len_tup, int_int, list_lst, list_tup, tuple_lst, tuple_tup, asB_bl, getD0, getDS, set0, setS, at0, atS, map_some', bind_some', List.length_cons, List.length_nil, List.any_cons, List.any_nil, decide_true, decide_false, and_self, Nat.reduceLeDiff, Nat.reduceAdd, if_true, Int.reduceLT, Int.reduceNeg, Int.reducePow, Int.reduceToNat, Int.reduceLE, Nat.reduceLT, Int.reduceAdd, Int.reduceSub, Bool.not_true, Bool.not_false, Int.reduceEq, bne_self_eq_false, Bool.false_bne, Bool.true_bne, Int.reduceBNe, isa, Bool.or_false, Bool.or_true, Bool.and_true, Bool.and_false, Bool.or_self, lk, all_lst (asBs_map (fun _ => true) ds)]
    rw [show (ds.map fun _ => true).all id = true by simp]
    exact endP_ok rfl
  | t + 1, .lst ds, e => by
    obtain ⟨e1, e2⟩ := Bool.and_eq_true_iff.mp (show (decide (ds.length ≤ 16777216) && ds.all (okD t)) = true from e)
    have hl : ds.length ≤ 16777216 := of_decide_eq_true e1
    have hA := List.all_eq_true.mp e2
    have lc := like_lc (t := t) (a := some (.lst ds)) (b := some (.lst ds)) (c := some (.bl true)) hl (fun d hd => okD_noRef (hA d hd)) fun d hd => like_refl (hA d hd)
    have lk := lcK_ok (vs := [3, 4]) (ε := [some (.lst ds), some (.lst ds), some (.bl true), none, none]) (h := []) lc (by simpa using hl)
    show endP (mLike (F_like_ t) [some (.lst ds), some (.lst ds), none, none, none] []) = _
    simp only [mLike, ↓seq_ap, ↓var_ap, ↓c_ap, ↓bin_ap, ↓tst_ap, ↓not_ap, ↓and_ap, ↓or_ap, ↓if_ap, ↓andv_ap, ↓orv_ap, ↓notv_ap, ↓nil_ap, ↓cons_ap, ↓tup_ap, ↓lst_ap, ↓call_ap, ↓callP_ap, ↓callI_ap, ↓perm_ap, ↓nop_ap, ↓smp_ap, ↓sl_ap, ↓chain_ap, ↓isi_ap, ↓lc_ap, ↓lstC_ap, ↓mts_ap, ↓yes_ap, ↓il_ap, ↓it_ap, ↓is_ap, ↓ir1_ap, ↓iz_ap, ↓snil_ap, ↓ret_ap, ↓sif_ap, ↓sexpr_ap, ↓bk_ap, ↓ct_ap, ↓asg_ap, ↓for_ap, ↓par_ap, ↓gname_ap, ↓gnil_ap, ↓gcons_ap, ↓gtup_ap, ↓gsub_ap, bR_ok, bR_ex, rt_some, sq_nx, sq_rt, sq_bk, sq_ct, sq_ex, bS_ok, bS_ex, binK1_ap, binK2_ap, tstK_b, notK_ap, andK_t, andK_f, orK_t, orK_f, ifK_t, ifK_f, andV_t, andV_f, orV_t, orV_f, notV_c, consK1_ap, consK2_ap, tupK_ok, lstK_ok, callK_ap, permK_ap, smP_int, slK1_ap, slK2_ap, slK3_ap, sl_lst, sl_scr, sl_tup, chK1_ap, chK2_ap, chK3_t, chK3_f, chK4_ap, isiK_int, isiK_str, isiK_bl, isiK_non, isiK_tup, isiK_lst, mtsK_str, mtsK2_ap, ilK_lst, ilK_scr, itK_tup, isK_str, izK_l, izK_t, retK_ap, sifK_t, sifK_f, sexprK_ap, asgK_ap, bG_ok, forK_ap, parK_ok, gK_ok, subK1_ok, subK2_ok, add_int, sub_int, mod_int, lt_int, le_int, gt_int, ge_int, eq_int, eq_str, eq_bl, eq_is, eq_si, eq_bs, eq_sb, eq_nn, ne_int, ne_str, ne_bl, isn_ap, isN_int, isN_str, isN_bl, isN_tup, isN_lst, isN_non, ix_lst, ix_tup, ix_scr, len_lst, len_tup, int_int, list_lst, list_tup, tuple_lst, tuple_tup, asB_bl, getD0, getDS, set0, setS, at0, atS, map_some', bind_some', List.length_cons, List.length_nil, List.any_cons, List.any_nil, decide_true, decide_false, and_self, Nat.reduceLeDiff, Nat.reduceAdd, if_true, Int.reduceLT, Int.reduceNeg, Int.reducePow, Int.reduceToNat, Int.reduceLE, Nat.reduceLT, Int.reduceAdd, Int.reduceSub, Bool.not_true, Bool.not_false, Int.reduceEq, bne_self_eq_false, Bool.false_bne, Bool.true_bne, Int.reduceBNe, isa, Bool.or_false, Bool.or_true, Bool.and_true, Bool.and_false, Bool.or_self, lk, all_lst (asBs_map (fun _ => true) ds)]
    rw [show (ds.map fun _ => true).all id = true by simp]
    exact endP_ok rfl
  | t + 1, .scr _, e => by cases e
  | t + 1, .dic _ _, e => by cases e
  | t + 1, .obj _ _, e => by cases e
  | t + 1, .ref _, e => by cases e
end PD

namespace PD
open PySem PySem.Spec PyProof.Rows L2
/-! ## names -/
def abc : List Nat := [97, 98, 99, 100, 101, 102, 103, 104, 105, 106, 107, 108, 109, 110, 111, 112, 113, 114, 115, 116, 117, 118, 119, 120, 121, 122]
def resv : List (List Nat) := [[97, 110, 100], [102, 111, 117, 110, 100], [107, 101, 121], [110, 101, 120, 116], [110, 111, 116], [111, 114], [111, 119, 110], [115, 101, 116], [116, 114, 117, 101], [119, 104, 101, 114, 101]]
def isNm (z : List Nat) : Bool := decide (1 ≤ z.length) && (decide (z.length ≤ 6) && (!decide (z ∈ resv) && z.all fun c => decide (c ∈ abc)))
def isCol (z : List Nat) : Bool := decide (z = [107, 101, 121]) || isNm z
def dGreat : D := (.int 1000000000000000000000000000000)
def dAbc : D := (.str abc)
def dResv : D := (.tup [(.str [97, 110, 100]), (.str [102, 111, 117, 110, 100]), (.str [107, 101, 121]), (.str [110, 101, 120, 116]), (.str [110, 111, 116]), (.str [111, 114]), (.str [111, 119, 110]), (.str [115, 101, 116]), (.str [116, 114, 117, 101]), (.str [119, 104, 101, 114, 101])])
theorem in_strs {h : EH} {z : List Nat} (ws : List (List Nat)) : dInA h (.str z) (.tup (ws.map .str)) = some (.bl (decide (z ∈ ws))) := by
  show (dInS false h (.str z) (.tup (ws.map .str))).or (dIn false h (.str z) (.tup (ws.map .str))) = _
  have e1 : dInS false h (.str z) (.tup (ws.map .str)) = none := rfl
  have e2 : (ws.map D.str).all flatD = true := by
    rw [List.all_eq_true]
    intro d hd
    obtain ⟨w, _, rfl⟩ := List.mem_map.mp hd
    rfl
  have e3 : dIn false h (.str z) (.tup (ws.map .str)) = some (.bl (false != (ws.map D.str).any fun y => eqF y (.str z))) := if_pos ⟨rfl, e2⟩
  rw [e1, e3]
  show some (D.bl (false != (ws.map D.str).any fun y => eqF y (.str z))) = _
  congr 2
  rw [Bool.eq_iff_iff]
  simp only [Bool.false_bne, List.any_eq_true, List.mem_map, decide_eq_true_eq]
  constructor
  · rintro ⟨d, ⟨w, hw, rfl⟩, e⟩
    have : w = z := by simpa [eqF] using e
    exact this ▸ hw
  · intro hz
    exact ⟨.str z, ⟨z, hz, rfl⟩, by simp [eqF]⟩
theorem in_strsL {h : EH} {z : List Nat} (ws : List (List Nat)) : dInA h (.str z) (.lst (ws.map .str)) = some (.bl (decide (z ∈ ws))) := by
  show (dInS false h (.str z) (.lst (ws.map .str))).or (dIn false h (.str z) (.lst (ws.map .str))) = _
  have e1 : dInS false h (.str z) (.lst (ws.map .str)) = none := rfl
  have e2 : (ws.map D.str).all flatD = true := by
    rw [List.all_eq_true]
    intro d hd
    obtain ⟨w, _, rfl⟩ := List.mem_map.mp hd
    rfl
  have e3 : dIn false h (.str z) (.lst (ws.map .str)) = some (.bl (false != (ws.map D.str).any fun y => eqF y (.str z))) := if_pos ⟨rfl, e2⟩
  rw [e1, e3]
  show some (D.bl (false != (ws.map D.str).any fun y => eqF y (.str z))) = _
  congr 2
  rw [Bool.eq_iff_iff]
  simp only [Bool.false_bne, List.any_eq_true, List.mem_map, decide_eq_true_eq]
  constructor
  · rintro ⟨d, ⟨w, hw, rfl⟩, e⟩
    have : w = z := by simpa [eqF] using e
    exact this ▸ hw
  · intro hz
    exact ⟨.str z, ⟨z, hz, rfl⟩, by simp [eqF]⟩
theorem in_resv {h : EH} {z : List Nat} : dInA h (.str z) dResv = some (.bl (decide (z ∈ resv))) := in_strs resv
theorem in_sign {h : EH} {c : Nat} {z : List Nat} : dInA h (.str [c]) (.str z) = some (.bl (decide (c ∈ z))) := by
  show (some (D.bl (false != decide (c ∈ z)))).or _ = _
  rw [Bool.false_bne]; rfl
def mIsName : MS :=
    (msSeq (msIf (mOr (mNot (mTst (mIsi [.str] (mVar 0)))) (mOr (mNot (mTst (mChain dLe dLe (mC (.int 1)) (mCall dLen (mCons (mVar 0) mNil)) (mC (.int 6))))) (mTst (mBin dInA (mVar 0) (mC dResv))))) (msRet (mC (.bl false))) msNil)
    (msRet (mCall dAll (mCons (mLc [1] (miS (mVar 0)) (mgName 1) mYes (mBin dInA (mVar 1) (mC dAbc))) mNil))))
def F_isName : PF := runP 2 mIsName
theorem isName_str {z : List Nat} (hz : z.length ≤ 16777216) : F_isName [.str z] = some (.ok (.bl (isNm z))) := by
  show endP (mIsName [some (.str z), none] []) = _
  by_cases q1 : 1 ≤ z.length
  · by_cases q2 : z.length ≤ 6
    · by_cases q3 : z ∈ resv
      · have e1 : (1 : Int) ≤ z.length := by omega
        have e2 : (z.length : Int) ≤ 6 := by omega
        simp only [mIsName, ↓seq_ap, ↓var_ap, ↓c_ap, ↓bin_ap, ↓tst_ap, ↓not_ap, ↓and_ap, ↓or_ap, ↓if_ap, ↓andv_ap, ↓orv_ap, ↓notv_ap, ↓nil_ap, ↓cons_ap, ↓tup_ap, ↓lst_ap, ↓call_ap, ↓callP_ap, ↓callI_ap, ↓perm_ap, ↓nop_ap, ↓smp_ap, ↓sl_ap, ↓chain_ap, ↓isi_ap, ↓lc_ap, ↓lstC_ap, ↓mts_ap, ↓yes_ap, ↓il_ap, ↓it_ap, ↓is_ap, ↓ir1_ap, ↓iz_ap, ↓snil_ap, ↓ret_ap, ↓sif_ap, ↓sexpr_ap, ↓bk_ap, ↓ct_ap, ↓asg_ap, ↓for_ap, ↓par_ap, ↓gname_ap, ↓gnil_ap, ↓gcons_ap, ↓gtup_ap, ↓gsub_ap, bR_ok, bR_ex, rt_some, sq_nx, sq_rt, sq_bk, sq_ct, sq_ex, bS_ok, bS_ex, binK1_ap, binK2_ap, tstK_b, notK_ap, andK_t, andK_f, orK_t, orK_f, ifK_t, ifK_f, andV_t, andV_f, orV_t, orV_f, notV_c, consK1_ap, consK2_ap, tupK_ok, lstK_ok, callK_ap, permK_ap, smP_int, slK1_ap, slK2_ap, slK3_ap, sl_lst, sl_scr, sl_tup, chK1_ap, chK2_ap, chK3_t, chK3_f, chK4_ap, isiK_int, isiK_str, isiK_bl, isiK_non, isiK_tup, isiK_lst, mtsK_str, mtsK2_ap, ilK_lst, ilK_scr, itK_tup, isK_str, izK_l, izK_t, retK_ap, sifK_t, sifK_f, sexprK_ap, asgK_ap, bG_ok, forK_ap, parK_ok, gK_ok, subK1_ok, subK2_ok, add_int, sub_int, mod_int, lt_int, le_int, gt_int, ge_int, eq_int, eq_str, eq_bl, eq_is, eq_si, eq_bs, eq_sb, eq_nn, ne_int, ne_str, ne_bl, isn_ap, isN_int, isN_str, isN_bl, isN_tup, isN_lst, isN_non, ix_lst, ix_tup, ix_scr, len_lst, len_tup, int_int, list_lst, list_tup, tuple_lst, tuple_tup, asB_bl, getD0, getDS, set0, setS, at0, atS, map_some', bind_some', List.length_cons, List.length_nil, List.any_cons, List.any_nil, decide_true, decide_false, and_self, Nat.reduceLeDiff, Nat.reduceAdd, if_true, Int.reduceLT, Int.reduceNeg, Int.reducePow, Int.reduceToNat, Int.reduceLE, Nat.reduceLT, Int.reduceAdd, Int.reduceSub, Bool.not_true, Bool.not_false, Int.reduceEq, bne_self_eq_false, Bool.false_bne, Bool.true_bne, Int.reduceBNe, isa, Bool.or_false, len_str hz, e1, e2, in_resv, q3, isNm, q1, q2, Bool.true_and, Bool.false_and]
        rfl
      · have e1 : (1 : Int) ≤ z.length := by omega
        have e2 : (z.length : Int) ≤ 6 := by omega
        have lc := lcL_map (g := mgName 1) (t := mYes) (e := mBin dInA (mVar 1) (mC dAbc)) (ε := [some (.str z), none]) (h := []) (ds := z.map fun c => D.str [c]) (fun d => match d with
          | .str [c] => .bl (decide (c ∈ abc))
          | _ => .non) fun d hd => by
            obtain ⟨c, _, rfl⟩ := List.mem_map.mp hd
            refine ⟨[some (.str z), some (.str [c])], rfl, rfl, ?_⟩
            simp only [↓seq_ap, ↓var_ap, ↓c_ap, ↓bin_ap, ↓tst_ap, ↓not_ap, ↓and_ap, ↓or_ap, ↓if_ap, ↓andv_ap, ↓orv_ap, ↓notv_ap, ↓nil_ap, ↓cons_ap, ↓tup_ap, ↓lst_ap, ↓call_ap, ↓callP_ap, ↓callI_ap, ↓perm_ap, ↓nop_ap, ↓smp_ap, ↓sl_ap, ↓chain_ap, ↓isi_ap, ↓lc_ap, ↓lstC_ap, ↓mts_ap, ↓yes_ap, ↓il_ap, ↓it_ap, ↓is_ap, ↓ir1_ap, ↓iz_ap, ↓snil_ap, ↓ret_ap, ↓sif_ap, ↓sexpr_ap, ↓bk_ap, ↓ct_ap, ↓asg_ap, ↓for_ap, ↓par_ap, ↓gname_ap, ↓gnil_ap, ↓gcons_ap, ↓gtup_ap, ↓gsub_ap, bR_ok, bR_ex, rt_some, sq_nx, sq_rt, sq_bk, sq_ct, sq_ex, bS_ok, bS_ex, binK1_ap, binK2_ap, tstK_b, notK_ap, andK_t, andK_f, orK_t, orK_f, ifK_t, ifK_f, andV_t, andV_f, orV_t, orV_f, notV_c, consK1_ap, consK2_ap, tupK_ok, lstK_ok, callK_ap, permK_ap, smP_int, slK1_ap, slK2_ap, slK3_ap, sl_lst, sl_scr, sl_tup, chK1_ap, chK2_ap, chK3_t, chK3_f, chK4_ap, isiK_int, isiK_str, isiK_bl, isiK_non, isiK_tup, isiK_lst, mtsK_str, mtsK2_ap, ilK_lst, ilK_scr, itK_tup, isK_str, izK_l, izK_t, retK_ap, sifK_t, sifK_f, sexprK_ap, asgK_ap, bG_ok, forK_ap, parK_ok, gK_ok, subK1_ok, subK2_ok, add_int, sub_int, mod_int, lt_int, le_int, gt_int, ge_int, eq_int, eq_str, eq_bl, eq_is, eq_si, eq_bs, eq_sb, eq_nn, ne_int, ne_str, ne_bl, isn_ap, isN_int, isN_str, isN_bl, isN_tup, isN_lst, isN_non, ix_lst, ix_tup, ix_scr, len_lst, len_tup, int_int, list_lst, list_tup, tuple_lst, tuple_tup, asB_bl, getD0, getDS, set0, setS, at0, atS, map_some', bind_some', List.length_cons, List.length_nil, List.any_cons, List.any_nil, dAbc, in_sign]
        rw [List.map_map] at lc
        have lk := lcK_ok (vs := [1]) (ε := [some (.str z), none]) (h := []) lc (by simpa using hz)
        have ab : asBs (z.map fun c => D.bl (decide (c ∈ abc))) = some (z.map fun c => decide (c ∈ abc)) := asBs_map _ z
        have lk' : lcK [1] (mgName 1) mYes (mBin dInA (mVar 1) (mC dAbc)) [some (D.str z), none] (z.map fun c => D.str [c]) [] = some (.ok (.lst (z.map fun c => D.bl (decide (c ∈ abc)))), []) := lk
        simp only [mIsName, ↓seq_ap, ↓var_ap, ↓c_ap, ↓bin_ap, ↓tst_ap, ↓not_ap, ↓and_ap, ↓or_ap, ↓if_ap, ↓andv_ap, ↓orv_ap, ↓notv_ap, ↓nil_ap, ↓cons_ap, ↓tup_ap, ↓lst_ap, ↓call_ap, ↓callP_ap, ↓callI_ap, ↓perm_ap, ↓nop_ap, ↓smp_ap, ↓sl_ap, ↓chain_ap, ↓isi_ap, ↓lc_ap, ↓lstC_ap, ↓mts_ap, ↓yes_ap, ↓il_ap, ↓it_ap, ↓is_ap, ↓ir1_ap, ↓iz_ap, ↓snil_ap, ↓ret_ap, ↓sif_ap, ↓sexpr_ap, ↓bk_ap, ↓ct_ap, ↓asg_ap, ↓for_ap, ↓par_ap, ↓gname_ap, ↓gnil_ap, ↓gcons_ap, ↓gtup_ap, ↓gsub_ap, bR_ok, bR_ex, rt_some, sq_nx, sq_rt, sq_bk, sq_ct, sq_ex, bS_ok, bS_ex, binK1_ap, binK2_ap, tstK_b, notK_ap, andK_t, andK_f, orK_t, orK_f, ifK_t, ifK_f, andV_t, andV_f, orV_t, orV_f, notV_c, consK1_ap, consK2_ap, tupK_ok, lstK_ok, callK_ap, permK_ap, smP_int, slK1_ap, slK2_ap, slK3_ap, sl_lst, sl_scr, sl_tup, chK1_ap, chK2_ap, chK3_t, chK3_f, chK4_ap, isiK_int, isiK_str, isiK_bl, isiK_non, isiK_tup, isiK_lst, mtsK_str, mtsK2_ap, ilK_lst, ilK_scr, itK_tup, isK_str, izK_l, izK_t, retK_ap, sifK_t, sifK_f, sexprK_ap, asgK_ap, bG_ok, forK_ap, parK_ok, gK_ok, subK1_ok, subK2_ok, add_int, sub_int, mod_int, lt_int, le_int, gt_int, ge_int, eq_int, eq_str, eq_bl, eq_is, eq_si, eq_bs, eq_sb, eq_nn, ne_int, ne_str, ne_bl, isn_ap, isN_int, isN_str, isN_bl, isN_tup, isN_lst, isN_non, ix_lst, ix_tup, ix_scr, len_lst, len_tup, int_int, list_lst, list_tup, tuple_lst, tuple_tup, asB_bl, getD0, getDS, set0, setS, at0, atS, map_some', bind_some', List.length_cons, List.length_nil, List.any_cons, List.any_nil, decide_true, decide_false, and_self, Nat.reduceLeDiff, Nat.reduceAdd, if_true, Int.reduceLT, Int.reduceNeg, Int.reducePow, Int.reduceToNat, Int.reduceLE, Nat.reduceLT, Int.reduceAdd, Int.reduceSub, Bool.not_true, Bool.not_false, Int.reduceEq, bne_self_eq_false, Bool.false_bne, Bool.true_bne, Int.reduceBNe, isa, Bool.or_false, len_str hz, e1, e2, in_resv, q3, isNm, q1, q2, Bool.true_and, Bool.false_and, lk', all_lst ab]
        rw [endP_ok rfl, List.all_map]
        rfl
    · have e1 : (1 : Int) ≤ z.length := by omega
      have e2 : ¬ (z.length : Int) ≤ 6 := by omega
      simp only [mIsName, ↓seq_ap, ↓var_ap, ↓c_ap, ↓bin_ap, ↓tst_ap, ↓not_ap, ↓and_ap, ↓or_ap, ↓if_ap, ↓andv_ap, ↓orv_ap, ↓notv_ap, ↓nil_ap, ↓cons_ap, ↓tup_ap, ↓lst_ap, ↓call_ap, ↓callP_ap, ↓callI_ap, ↓perm_ap, ↓nop_ap, ↓smp_ap, ↓sl_ap, ↓chain_ap, ↓isi_ap, ↓lc_ap, ↓lstC_ap, ↓mts_ap, ↓yes_ap, ↓il_ap, ↓it_ap, ↓is_ap, ↓ir1_ap, ↓iz_ap, ↓snil_ap, ↓ret_ap, ↓sif_ap, ↓sexpr_ap, ↓bk_ap, ↓ct_ap, ↓asg_ap, ↓for_ap, ↓par_ap, ↓gname_ap, ↓gnil_ap, ↓gcons_ap, ↓gtup_ap, ↓gsub_ap, bR_ok, bR_ex, rt_some, sq_nx, sq_rt, sq_bk, sq_ct, sq_ex, bS_ok, bS_ex, binK1_ap, binK2_ap, tstK_b, notK_ap, andK_t, andK_f, orK_t, orK_f, ifK_t, ifK_f, andV_t, andV_f, orV_t, orV_f, notV_c, consK1_ap, consK2_ap, tupK_ok, lstK_ok, callK_ap, permK_ap, smP_int, slK1_ap, slK2_ap, slK3_ap, sl_lst, sl_scr, sl_tup, chK1_ap, chK2_ap, chK3_t, chK3_f, chK4_ap, isiK_int, isiK_str, isiK_bl, isiK_non, isiK_tup, isiK_lst, mtsK_str, mtsK2_ap, ilK_lst, ilK_scr, itK_tup, isK_str, izK_l, izK_t, retK_ap, sifK_t, sifK_f, sexprK_ap, asgK_ap, bG_ok, forK_ap, parK_ok, gK_ok, subK1_ok, subK2_ok, add_int, sub_int, mod_int, lt_int, le_int, gt_int, ge_int, eq_int, eq_str, eq_bl, eq_is, eq_si, eq_bs, eq_sb, eq_nn, ne_int, ne_str, ne_bl, isn_ap, isN_int, isN_str, isN_bl, isN_tup, isN_lst, isN_non, ix_lst, ix_tup, ix_scr, len_lst, len_tup, int_int, list_lst, list_tup, tuple_lst, tuple_tup, asB_bl, getD0, getDS, set0, setS, at0, atS, map_some', bind_some', List.length_cons, List.length_nil, List.any_cons, List.any_nil, decide_true, decide_false, and_self, Nat.reduceLeDiff, Nat.reduceAdd, if_true, Int.reduceLT, Int.reduceNeg, Int.reducePow, Int.reduceToNat, Int.reduceLE, Nat.reduceLT, Int.reduceAdd, Int.reduceSub, Bool.not_true, Bool.not_false, Int.reduceEq, bne_self_eq_false, Bool.false_bne, Bool.true_bne, Int.reduceBNe, isa, Bool.or_false, len_str hz, e1, e2, isNm, q1, q2, Bool.true_and, Bool.false_and]
      rfl
  · have e1 : ¬ (1 : Int) ≤ z.length := by omega
    simp only [mIsName, ↓seq_ap, ↓var_ap, ↓c_ap, ↓bin_ap, ↓tst_ap, ↓not_ap, ↓and_ap, ↓or_ap, ↓if_ap, ↓andv_ap, ↓orv_ap, ↓notv_ap, ↓nil_ap, ↓cons_ap, ↓tup_ap, ↓lst_ap, ↓call_ap, ↓callP_ap, ↓callI_ap, ↓perm_ap, ↓nop_ap, ↓smp_ap, ↓sl_ap, ↓chain_ap, ↓isi_ap, ↓lc_ap, ↓lstC_ap, ↓mts_ap, ↓yes_ap, ↓il_ap, ↓it_ap, ↓is_ap, ↓ir1_ap, ↓iz_ap, ↓snil_ap, ↓ret_ap, ↓sif_ap, ↓sexpr_ap, ↓bk_ap, ↓ct_ap, ↓asg_ap, ↓for_ap, ↓par_ap, ↓gname_ap, ↓gnil_ap, ↓gcons_ap, ↓gtup_ap, ↓gsub_ap, bR_ok, bR_ex, rt_some, sq_nx, sq_rt, sq_bk, sq_ct, sq_ex, bS_ok, bS_ex, binK1_ap, binK2_ap, tstK_b, notK_ap, andK_t, andK_f, orK_t, orK_f, ifK_t, ifK_f, andV_t, andV_f, orV_t, orV_f, notV_c, consK1_ap, consK2_ap, tupK_ok, lstK_ok, callK_ap, permK_ap, smP_int, slK1_ap, slK2_ap, slK3_ap, sl_lst, sl_scr, sl_tup, chK1_ap, chK2_ap, chK3_t, chK3_f, chK4_ap, isiK_int, isiK_str, isiK_bl, isiK_non, isiK_tup, isiK_lst, mtsK_str, mtsK2_ap, ilK_lst, ilK_scr, itK_tup, isK_str, izK_l, izK_t, retK_ap, sifK_t, sifK_f, sexprK_ap, asgK_ap, bG_ok, forK_ap, parK_ok, gK_ok, subK1_ok, subK2_ok, add_int, sub_int, mod_int, lt_int, le_int, gt_int, ge_int, eq_int, eq_str, eq_bl, eq_is, eq_si, eq_bs, eq_sb, eq_nn, ne_int, ne_str, ne_bl, isn_ap, isN_int, isN_str, isN_bl, isN_tup, isN_lst, isN_non, ix_lst, ix_tup, ix_scr, len_lst, len_tup, int_int, list_lst, list_tup, tuple_lst, tuple_tup, asB_bl, getD0, getDS, set0, setS, at0, atS, map_some', bind_some', List.length_cons, List.length_nil, List.any_cons, List.any_nil, decide_true, decide_false, and_self, Nat.reduceLeDiff, Nat.reduceAdd, if_true, Int.reduceLT, Int.reduceNeg, Int.reducePow, Int.reduceToNat, Int.reduceLE, Nat.reduceLT, Int.reduceAdd, Int.reduceSub, Bool.not_true, Bool.not_false, Int.reduceEq, bne_self_eq_false, Bool.false_bne, Bool.true_bne, Int.reduceBNe, isa, Bool.or_false, len_str hz, e1, isNm, q1, Bool.true_and, Bool.false_and]
    rfl
theorem isNm_len {z : List Nat} (h : isNm z = true) : 1 ≤ z.length ∧ z.length ≤ 6 := by
  unfold isNm at h
  simp only [Bool.and_eq_true, decide_eq_true_eq] at h
  exact ⟨h.1, h.2.1⟩
theorem isName_nm {z : List Nat} (h : isNm z = true) : F_isName [.str z] = some (.ok (.bl true)) := by
  rw [isName_str (by have := isNm_len h; omega), h]
def mIsCol : MS :=
    (msRet (mAndV (mIsi [.str] (mVar 0)) (mOrV (mBin dEq (mVar 0) (mC (.str [107, 101, 121]))) (mCallP F_isName (mCons (mVar 0) mNil)))))
def F_isCol : PF := runP 1 mIsCol
theorem isCol_str {z : List Nat} (hz : z.length ≤ 16777216) : F_isCol [.str z] = some (.ok (.bl (isCol z))) := by
  show endP (mIsCol [some (.str z)] []) = _
  by_cases q : z = [107, 101, 121]
  · simp only [mIsCol, ↓seq_ap, ↓var_ap, ↓c_ap, ↓bin_ap, ↓tst_ap, ↓not_ap, ↓and_ap, ↓or_ap, ↓if_ap, ↓andv_ap, ↓orv_ap, ↓notv_ap, ↓nil_ap, ↓cons_ap, ↓tup_ap, ↓lst_ap, ↓call_ap, ↓callP_ap, ↓callI_ap, ↓perm_ap, ↓nop_ap, ↓smp_ap, ↓sl_ap, ↓chain_ap, ↓isi_ap, ↓lc_ap, ↓lstC_ap, ↓mts_ap, ↓yes_ap, ↓il_ap, ↓it_ap, ↓is_ap, ↓ir1_ap, ↓iz_ap, ↓snil_ap, ↓ret_ap, ↓sif_ap, ↓sexpr_ap, ↓bk_ap, ↓ct_ap, ↓asg_ap, ↓for_ap, ↓par_ap, ↓gname_ap, ↓gnil_ap, ↓gcons_ap, ↓gtup_ap, ↓gsub_ap, bR_ok, bR_ex, rt_some, sq_nx, sq_rt, sq_bk, sq_ct, sq_ex, bS_ok, bS_ex, binK1_ap, binK2_ap, tstK_b, notK_ap, andK_t, andK_f, orK_t, orK_f, ifK_t, ifK_f, andV_t, andV_f, orV_t, orV_f, notV_c, consK1_ap, consK2_ap, tupK_ok, lstK_ok, callK_ap, permK_ap, smP_int, slK1_ap, slK2_ap, slK3_ap, sl_lst, sl_scr, sl_tup, chK1_ap, chK2_ap, chK3_t, chK3_f, chK4_ap, isiK_int, isiK_str, isiK_bl, isiK_non, isiK_tup, isiK_lst, mtsK_str, mtsK2_ap, ilK_lst, ilK_scr, itK_tup, isK_str, izK_l, izK_t, retK_ap, sifK_t, sifK_f, sexprK_ap, asgK_ap, bG_ok, forK_ap, parK_ok, gK_ok, subK1_ok, subK2_ok, add_int, sub_int, mod_int, lt_int, le_int, gt_int, ge_int, eq_int, eq_str, eq_bl, eq_is, eq_si, eq_bs, eq_sb, eq_nn, ne_int, ne_str, ne_bl, isn_ap, isN_int, isN_str, isN_bl, isN_tup, isN_lst, isN_non, ix_lst, ix_tup, ix_scr, len_lst, len_tup, int_int, list_lst, list_tup, tuple_lst, tuple_tup, asB_bl, getD0, getDS, set0, setS, at0, atS, map_some', bind_some', List.length_cons, List.length_nil, List.any_cons, List.any_nil, decide_true, decide_false, and_self, Nat.reduceLeDiff, Nat.reduceAdd, if_true, Int.reduceLT, Int.reduceNeg, Int.reducePow, Int.reduceToNat, Int.reduceLE, Nat.reduceLT, Int.reduceAdd, Int.reduceSub, Bool.not_true, Bool.not_false, Int.reduceEq, bne_self_eq_false, Bool.false_bne, Bool.true_bne, Int.reduceBNe, isa, Bool.or_false, q, isCol, Bool.true_or]
    rfl
  · simp only [mIsCol, ↓seq_ap, ↓var_ap, ↓c_ap, ↓bin_ap, ↓tst_ap, ↓not_ap, ↓and_ap, ↓or_ap, ↓if_ap, ↓andv_ap, ↓orv_ap, ↓notv_ap, ↓nil_ap, ↓cons_ap, ↓tup_ap, ↓lst_ap, ↓call_ap, ↓callP_ap, ↓callI_ap, ↓perm_ap, ↓nop_ap, ↓smp_ap, ↓sl_ap, ↓chain_ap, ↓isi_ap, ↓lc_ap, ↓lstC_ap, ↓mts_ap, ↓yes_ap, ↓il_ap, ↓it_ap, ↓is_ap, ↓ir1_ap, ↓iz_ap, ↓snil_ap, ↓ret_ap, ↓sif_ap, ↓sexpr_ap, ↓bk_ap, ↓ct_ap, ↓asg_ap, ↓for_ap, ↓par_ap, ↓gname_ap, ↓gnil_ap, ↓gcons_ap, ↓gtup_ap, ↓gsub_ap, bR_ok, bR_ex, rt_some, sq_nx, sq_rt, sq_bk, sq_ct, sq_ex, bS_ok, bS_ex, binK1_ap, binK2_ap, tstK_b, notK_ap, andK_t, andK_f, orK_t, orK_f, ifK_t, ifK_f, andV_t, andV_f, orV_t, orV_f, notV_c, consK1_ap, consK2_ap, tupK_ok, lstK_ok, callK_ap, permK_ap, smP_int, slK1_ap, slK2_ap, slK3_ap, sl_lst, sl_scr, sl_tup, chK1_ap, chK2_ap, chK3_t, chK3_f, chK4_ap, isiK_int, isiK_str, isiK_bl, isiK_non, isiK_tup, isiK_lst, mtsK_str, mtsK2_ap, ilK_lst, ilK_scr, itK_tup, isK_str, izK_l, izK_t, retK_ap, sifK_t, sifK_f, sexprK_ap, asgK_ap, bG_ok, forK_ap, parK_ok, gK_ok, subK1_ok, subK2_ok, add_int, sub_int, mod_int, lt_int, le_int, gt_int, ge_int, eq_int, eq_str, eq_bl, eq_is, eq_si, eq_bs, eq_sb, eq_nn, ne_int, ne_str, ne_bl, isn_ap, isN_int, isN_str, isN_bl, isN_tup, isN_lst, isN_non, ix_lst, ix_tup, ix_scr, len_lst, len_tup, int_int, list_lst, list_tup, tuple_lst, tuple_tup, asB_bl, getD0, getDS, set0, setS, at0, atS, map_some', bind_some', List.length_cons, List.length_nil, List.any_cons, List.any_nil, decide_true, decide_false, and_self, Nat.reduceLeDiff, Nat.reduceAdd, if_true, Int.reduceLT, Int.reduceNeg, Int.reducePow, Int.reduceToNat, Int.reduceLE, Nat.reduceLT, Int.reduceAdd, Int.reduceSub, Bool.not_true, Bool.not_false, Int.reduceEq, bne_self_eq_false, Bool.false_bne, Bool.true_bne, Int.reduceBNe, isa, Bool.or_false, q, isCol, Bool.false_or, callPK_ok (isName_str hz) rfl]
    rfl
theorem isCol_len {z : List Nat} (h : isCol z = true) : 1 ≤ z.length ∧ z.length ≤ 6 := by
  unfold isCol at h
  rw [Bool.or_eq_true] at h
  rcases h with h | h
  · rw [of_decide_eq_true h]; decide
  · exact isNm_len h
theorem isCol_c {z : List Nat} (h : isCol z = true) : F_isCol [.str z] = some (.ok (.bl true)) := by
  rw [isCol_str (by have := isCol_len h; omega), h]
def mIsInt : MS :=
    (msRet (mAndV (mIsi [.int] (mVar 0)) (mNotV (mIsi [.bool] (mVar 0)))))
def F_isInt : PF := runP 1 mIsInt
theorem isInt_int (i : Int) : F_isInt [.int i] = some (.ok (.bl true)) := by
  show endP (mIsInt [some (.int i)] []) = _
  simp only [mIsInt, ↓seq_ap, ↓var_ap, ↓c_ap, ↓bin_ap, ↓tst_ap, ↓not_ap, ↓and_ap, ↓or_ap, ↓if_ap, ↓andv_ap, ↓orv_ap, ↓notv_ap, ↓nil_ap, ↓cons_ap, ↓tup_ap, ↓lst_ap, ↓call_ap, ↓callP_ap, ↓callI_ap, ↓perm_ap, ↓nop_ap, ↓smp_ap, ↓sl_ap, ↓chain_ap, ↓isi_ap, ↓lc_ap, ↓lstC_ap, ↓mts_ap, ↓yes_ap, ↓il_ap, ↓it_ap, ↓is_ap, ↓ir1_ap, ↓iz_ap, ↓snil_ap, ↓ret_ap, ↓sif_ap, ↓sexpr_ap, ↓bk_ap, ↓ct_ap, ↓asg_ap, ↓for_ap, ↓par_ap, ↓gname_ap, ↓gnil_ap, ↓gcons_ap, ↓gtup_ap, ↓gsub_ap, bR_ok, bR_ex, rt_some, sq_nx, sq_rt, sq_bk, sq_ct, sq_ex, bS_ok, bS_ex, binK1_ap, binK2_ap, tstK_b, notK_ap, andK_t, andK_f, orK_t, orK_f, ifK_t, ifK_f, andV_t, andV_f, orV_t, orV_f, notV_c, consK1_ap, consK2_ap, tupK_ok, lstK_ok, callK_ap, permK_ap, smP_int, slK1_ap, slK2_ap, slK3_ap, sl_lst, sl_scr, sl_tup, chK1_ap, chK2_ap, chK3_t, chK3_f, chK4_ap, isiK_int, isiK_str, isiK_bl, isiK_non, isiK_tup, isiK_lst, mtsK_str, mtsK2_ap, ilK_lst, ilK_scr, itK_tup, isK_str, izK_l, izK_t, retK_ap, sifK_t, sifK_f, sexprK_ap, asgK_ap, bG_ok, forK_ap, parK_ok, gK_ok, subK1_ok, subK2_ok, add_int, sub_int, mod_int, lt_int, le_int, gt_int, ge_int, eq_int, eq_str, eq_bl, eq_is, eq_si, eq_bs, eq_sb, eq_nn, ne_int, ne_str, ne_bl, isn_ap, isN_int, isN_str, isN_bl, isN_tup, isN_lst, isN_non, ix_lst, ix_tup, ix_scr, len_lst, len_tup, int_int, list_lst, list_tup, tuple_lst, tuple_tup, asB_bl, getD0, getDS, set0, setS, at0, atS, map_some', bind_some', List.length_cons, List.length_nil, List.any_cons, List.any_nil, decide_true, decide_false, and_self, Nat.reduceLeDiff, Nat.reduceAdd, if_true, Int.reduceLT, Int.reduceNeg, Int.reducePow, Int.reduceToNat, Int.reduceLE, Nat.reduceLT, Int.reduceAdd, Int.reduceSub, Bool.not_true, Bool.not_false, Int.reduceEq, bne_self_eq_false, Bool.false_bne, Bool.true_bne, Int.reduceBNe, isa, Bool.or_false]
  rfl
def mIsCon : MS :=
    (msRet (mAndV (mCallP F_isInt (mCons (mVar 0) mNil)) (mChain dLe dLe (mBin dSub (mC (.int 0)) (mC dGreat)) (mVar 0) (mC dGreat))))
def F_isCon : PF := runP 1 mIsCon
def isCon (i : Int) : Bool := decide (0 - 1000000000000000000000000000000 ≤ i) && decide (i ≤ 1000000000000000000000000000000)
theorem isCon_int (i : Int) : F_isCon [.int i] = some (.ok (.bl (isCon i))) := by
  show endP (mIsCon [some (.int i)] []) = _
  by_cases q : 0 - 1000000000000000000000000000000 ≤ i
  · simp only [mIsCon, ↓seq_ap, ↓var_ap, ↓c_ap, ↓bin_ap, ↓tst_ap, ↓not_ap, ↓and_ap, ↓or_ap, ↓if_ap, ↓andv_ap, ↓orv_ap, ↓notv_ap, ↓nil_ap, ↓cons_ap, ↓tup_ap, ↓lst_ap, ↓call_ap, ↓callP_ap, ↓callI_ap, ↓perm_ap, ↓nop_ap, ↓smp_ap, ↓sl_ap, ↓chain_ap, ↓isi_ap, ↓lc_ap, ↓lstC_ap, ↓mts_ap, ↓yes_ap, ↓il_ap, ↓it_ap, ↓is_ap, ↓ir1_ap, ↓iz_ap, ↓snil_ap, ↓ret_ap, ↓sif_ap, ↓sexpr_ap, ↓bk_ap, ↓ct_ap, ↓asg_ap, ↓for_ap, ↓par_ap, ↓gname_ap, ↓gnil_ap, ↓gcons_ap, ↓gtup_ap, ↓gsub_ap, bR_ok, bR_ex, rt_some, sq_nx, sq_rt, sq_bk, sq_ct, sq_ex, bS_ok, bS_ex, binK1_ap, binK2_ap, tstK_b, notK_ap, andK_t, andK_f, orK_t, orK_f, ifK_t, ifK_f, andV_t, andV_f, orV_t, orV_f, notV_c, consK1_ap, consK2_ap, tupK_ok, lstK_ok, callK_ap, permK_ap, smP_int, slK1_ap, slK2_ap, slK3_ap, sl_lst, sl_scr, sl_tup, chK1_ap, chK2_ap, chK3_t, chK3_f, chK4_ap, isiK_int, isiK_str, isiK_bl, isiK_non, isiK_tup, isiK_lst, mtsK_str, mtsK2_ap, ilK_lst, ilK_scr, itK_tup, isK_str, izK_l, izK_t, retK_ap, sifK_t, sifK_f, sexprK_ap, asgK_ap, bG_ok, forK_ap, parK_ok, gK_ok, subK1_ok, subK2_ok, add_int, sub_int, mod_int, lt_int, le_int, gt_int, ge_int, eq_int, eq_str, eq_bl, eq_is, eq_si, eq_bs, eq_sb, eq_nn, ne_int, ne_str, ne_bl, isn_ap, isN_int, isN_str, isN_bl, isN_tup, isN_lst, isN_non, ix_lst, ix_tup, ix_scr, len_lst, len_tup, int_int, list_lst, list_tup, tuple_lst, tuple_tup, asB_bl, getD0, getDS, set0, setS, at0, atS, map_some', bind_some', List.length_cons, List.length_nil, List.any_cons, List.any_nil, dGreat, callPK_ok (isInt_int i) rfl, q, decide_true, isCon, Bool.true_and]
    rfl
  · simp only [mIsCon, ↓seq_ap, ↓var_ap, ↓c_ap, ↓bin_ap, ↓tst_ap, ↓not_ap, ↓and_ap, ↓or_ap, ↓if_ap, ↓andv_ap, ↓orv_ap, ↓notv_ap, ↓nil_ap, ↓cons_ap, ↓tup_ap, ↓lst_ap, ↓call_ap, ↓callP_ap, ↓callI_ap, ↓perm_ap, ↓nop_ap, ↓smp_ap, ↓sl_ap, ↓chain_ap, ↓isi_ap, ↓lc_ap, ↓lstC_ap, ↓mts_ap, ↓yes_ap, ↓il_ap, ↓it_ap, ↓is_ap, ↓ir1_ap, ↓iz_ap, ↓snil_ap, ↓ret_ap, ↓sif_ap, ↓sexpr_ap, ↓bk_ap, ↓ct_ap, ↓asg_ap, ↓for_ap, ↓par_ap, ↓gname_ap, ↓gnil_ap, ↓gcons_ap, ↓gtup_ap, ↓gsub_ap, bR_ok, bR_ex, rt_some, sq_nx, sq_rt, sq_bk, sq_ct, sq_ex, bS_ok, bS_ex, binK1_ap, binK2_ap, tstK_b, notK_ap, andK_t, andK_f, orK_t, orK_f, ifK_t, ifK_f, andV_t, andV_f, orV_t, orV_f, notV_c, consK1_ap, consK2_ap, tupK_ok, lstK_ok, callK_ap, permK_ap, smP_int, slK1_ap, slK2_ap, slK3_ap, sl_lst, sl_scr, sl_tup, chK1_ap, chK2_ap, chK3_t, chK3_f, chK4_ap, isiK_int, isiK_str, isiK_bl, isiK_non, isiK_tup, isiK_lst, mtsK_str, mtsK2_ap, ilK_lst, ilK_scr, itK_tup, isK_str, izK_l, izK_t, retK_ap, sifK_t, sifK_f, sexprK_ap, asgK_ap, bG_ok, forK_ap, parK_ok, gK_ok, subK1_ok, subK2_ok, add_int, sub_int, mod_int, lt_int, le_int, gt_int, ge_int, eq_int, eq_str, eq_bl, eq_is, eq_si, eq_bs, eq_sb, eq_nn, ne_int, ne_str, ne_bl, isn_ap, isN_int, isN_str, isN_bl, isN_tup, isN_lst, isN_non, ix_lst, ix_tup, ix_scr, len_lst, len_tup, int_int, list_lst, list_tup, tuple_lst, tuple_tup, asB_bl, getD0, getDS, set0, setS, at0, atS, map_some', bind_some', List.length_cons, List.length_nil, List.any_cons, List.any_nil, dGreat, callPK_ok (isInt_int i) rfl, q, decide_false, isCon, Bool.false_and]
    rfl
/-! ## values -/
def sField : List Nat := [102, 105, 101, 108, 100]
def sNumber : List Nat := [110, 117, 109, 98, 101, 114]
def sName : List Nat := [110, 97, 109, 101]
def sOwn : List Nat := [111, 119, 110]
def sNext : List Nat := [110, 101, 120, 116]
def sPlus : List Nat := [112, 108, 117, 115]
inductive Pl where
  | num (n : Int) | name (z : List Nat) | field (z y : List Nat) | own (y : List Nat) | next (y : List Nat)
  deriving DecidableEq
def Pl.d : Pl → D
  | .num n => .tup [.str sNumber, .int n]
  | .name z => .tup [.str sName, .str z]
  | .field z y => .tup [.str sField, .str z, .str y]
  | .own y => .tup [.str sOwn, .str y]
  | .next y => .tup [.str sNext, .str y]
def Pl.ok : Pl → Bool
  | .num n => isCon n
  | .name z => isNm z
  | .field z y => isNm z && isCol y
  | .own y => isCol y
  | .next y => isCol y
inductive Vl where
  | pl (p : Pl) | plus (p : Pl) (m : Int)
  deriving DecidableEq
def Vl.d : Vl → D
  | .pl p => p.d
  | .plus p m => .tup [.str sPlus, p.d, .int m]
def Vl.ok : Vl → Bool
  | .pl p => p.ok
  | .plus p m => p.ok && isCon m
def mIsPlain : MS :=
    (msSeq (msIf (mOr (mNot (mTst (mIsi [.tup] (mVar 0)))) (mOr (mTst (mBin dLt (mCall dLen (mCons (mVar 0) mNil)) (mC (.int 2)))) (mNot (mTst (mIsi [.str] (mBin dIx (mVar 0) (mC (.int 0)))))))) (msRet (mC (.bl false))) msNil)
    (msSeq (msIf (mTst (mBin dEq (mBin dIx (mVar 0) (mC (.int 0))) (mC (.str [102, 105, 101, 108, 100])))) (msRet (mAndV (mBin dEq (mCall dLen (mCons (mVar 0) mNil)) (mC (.int 3))) (mAndV (mCallP F_isName (mCons (mBin dIx (mVar 0) (mC (.int 1))) mNil)) (mCallP F_isCol (mCons (mBin dIx (mVar 0) (mC (.int 2))) mNil))))) msNil)
    (msSeq (msIf (mTst (mBin dNe (mCall dLen (mCons (mVar 0) mNil)) (mC (.int 2)))) (msRet (mC (.bl false))) msNil)
    (msSeq (msIf (mTst (mBin dEq (mBin dIx (mVar 0) (mC (.int 0))) (mC (.str [110, 117, 109, 98, 101, 114])))) (msRet (mCallP F_isCon (mCons (mBin dIx (mVar 0) (mC (.int 1))) mNil))) msNil)
    (msSeq (msIf (mTst (mBin dEq (mBin dIx (mVar 0) (mC (.int 0))) (mC (.str [110, 97, 109, 101])))) (msRet (mCallP F_isName (mCons (mBin dIx (mVar 0) (mC (.int 1))) mNil))) msNil)
    (msRet (mAndV (mBin dInA (mBin dIx (mVar 0) (mC (.int 0))) (mTup (mCons (mC (.str [111, 119, 110])) (mCons (mC (.str [110, 101, 120, 116])) mNil)))) (mCallP F_isCol (mCons (mBin dIx (mVar 0) (mC (.int 1))) mNil)))))))))
def F_isPlain : PF := runP 1 mIsPlain
theorem atl0 {a : D} {r : List D} : atI (a :: r) 0 = some a := by
  rw [atI_nat _ 0 0 rfl]; rfl
theorem atl1 {a b : D} {r : List D} : atI (a :: b :: r) 1 = some b := by
  rw [atI_nat _ 1 1 rfl]; rfl
theorem atl2 {a b c : D} {r : List D} : atI (a :: b :: c :: r) 2 = some c := by
  rw [atI_nat _ 2 2 rfl]; rfl
theorem len0 : ((0 : Nat) : Int) = 0 := rfl
theorem len1 : ((1 : Nat) : Int) = 1 := rfl
theorem len2 : ((2 : Nat) : Int) = 2 := rfl
theorem len3 : ((3 : Nat) : Int) = 3 := rfl
theorem len4 : ((4 : Nat) : Int) = 4 := rfl
theorem len5 : ((5 : Nat) : Int) = 5 := rfl
theorem in_on {h : EH} {z : List Nat} : dInA h (.str z) (.tup [.str [111, 119, 110], .str [110, 101, 120, 116]]) = some (.bl (decide (z ∈ [[111, 119, 110], [110, 101, 120, 116]]))) := in_strs [[111, 119, 110], [110, 101, 120, 116]]
theorem isPlain_ok : ∀ {p : Pl}, p.ok = true → F_isPlain [p.d] = some (.ok (.bl true))
  | .num n, h => by
    show endP (mIsPlain [some (Pl.num n).d] []) = _
    have e := isCon_int n
    rw [show isCon n = true from h] at e
    simp only [mIsPlain, Pl.d, ↓seq_ap, ↓var_ap, ↓c_ap, ↓bin_ap, ↓tst_ap, ↓not_ap, ↓and_ap, ↓or_ap, ↓if_ap, ↓andv_ap, ↓orv_ap, ↓notv_ap, ↓nil_ap, ↓cons_ap, ↓tup_ap, ↓lst_ap, ↓call_ap, ↓callP_ap, ↓callI_ap, ↓perm_ap, ↓nop_ap, ↓smp_ap, ↓sl_ap, ↓chain_ap, ↓isi_ap, ↓lc_ap, ↓lstC_ap, ↓mts_ap, ↓yes_ap, ↓il_ap, ↓it_ap, ↓is_ap, ↓ir1_ap, ↓iz_ap, ↓snil_ap, ↓ret_ap, ↓sif_ap, ↓sexpr_ap, ↓bk_ap, ↓ct_ap, ↓asg_ap, ↓for_ap, ↓par_ap, ↓gname_ap, ↓gnil_ap, ↓gcons_ap, ↓gtup_ap, ↓gsub_ap, bR_ok, bR_ex, rt_some, sq_nx, sq_rt, sq_bk, sq_ct, sq_ex, bS_ok, bS_ex, binK1_ap, binK2_ap, tstK_b, notK_ap, andK_t, andK_f, orK_t, orK_f, ifK_t, ifK_f, andV_t, andV_f, orV_t, orV_f, notV_c, consK1_ap, consK2_ap, tupK_ok, lstK_ok, callK_ap, permK_ap, smP_int, slK1_ap, slK2_ap, slK3_ap, sl_lst, sl_scr, sl_tup, chK1_ap, chK2_ap, chK3_t, chK3_f, chK4_ap, isiK_int, isiK_str, isiK_bl, isiK_non, isiK_tup, isiK_lst, mtsK_str, mtsK2_ap, ilK_lst, ilK_scr, itK_tup, isK_str, izK_l, izK_t, retK_ap, sifK_t, sifK_f, sexprK_ap, asgK_ap, bG_ok, forK_ap, parK_ok, gK_ok, subK1_ok, subK2_ok, add_int, sub_int, mod_int, lt_int, le_int, gt_int, ge_int, eq_int, eq_str, eq_bl, eq_is, eq_si, eq_bs, eq_sb, eq_nn, ne_int, ne_str, ne_bl, isn_ap, isN_int, isN_str, isN_bl, isN_tup, isN_lst, isN_non, ix_lst, ix_tup, ix_scr, len_lst, len_tup, int_int, list_lst, list_tup, tuple_lst, tuple_tup, asB_bl, getD0, getDS, set0, setS, at0, atS, map_some', bind_some', List.length_cons, List.length_nil, List.any_cons, List.any_nil, decide_true, decide_false, and_self, Nat.reduceLeDiff, Nat.reduceAdd, if_true, Int.reduceLT, Int.reduceNeg, Int.reducePow, Int.reduceToNat, Int.reduceLE, Nat.reduceLT, Int.reduceAdd, Int.reduceSub, Bool.not_true, Bool.not_false, Int.reduceEq, bne_self_eq_false, Bool.false_bne, Bool.true_bne, Int.reduceBNe, isa, Bool.or_false, atl0, atl1, len0, len1, len2, len3, sNumber, show ¬ ([110, 117, 109, 98, 101, 114] = [102, 105, 101, 108, 100]) by decide, callPK_ok e rfl]
    rfl
  | .name z, h => by
    show endP (mIsPlain [some (Pl.name z).d] []) = _
    simp only [mIsPlain, Pl.d, ↓seq_ap, ↓var_ap, ↓c_ap, ↓bin_ap, ↓tst_ap, ↓not_ap, ↓and_ap, ↓or_ap, ↓if_ap, ↓andv_ap, ↓orv_ap, ↓notv_ap, ↓nil_ap, ↓cons_ap, ↓tup_ap, ↓lst_ap, ↓call_ap, ↓callP_ap, ↓callI_ap, ↓perm_ap, ↓nop_ap, ↓smp_ap, ↓sl_ap, ↓chain_ap, ↓isi_ap, ↓lc_ap, ↓lstC_ap, ↓mts_ap, ↓yes_ap, ↓il_ap, ↓it_ap, ↓is_ap, ↓ir1_ap, ↓iz_ap, ↓snil_ap, ↓ret_ap, ↓sif_ap, ↓sexpr_ap, ↓bk_ap, ↓ct_ap, ↓asg_ap, ↓for_ap, ↓par_ap, ↓gname_ap, ↓gnil_ap, ↓gcons_ap, ↓gtup_ap, ↓gsub_ap, bR_ok, bR_ex, rt_some, sq_nx, sq_rt, sq_bk, sq_ct, sq_ex, bS_ok, bS_ex, binK1_ap, binK2_ap, tstK_b, notK_ap, andK_t, andK_f, orK_t, orK_f, ifK_t, ifK_f, andV_t, andV_f, orV_t, orV_f, notV_c, consK1_ap, consK2_ap, tupK_ok, lstK_ok, callK_ap, permK_ap, smP_int, slK1_ap, slK2_ap, slK3_ap, sl_lst, sl_scr, sl_tup, chK1_ap, chK2_ap, chK3_t, chK3_f, chK4_ap, isiK_int, isiK_str, isiK_bl, isiK_non, isiK_tup, isiK_lst, mtsK_str, mtsK2_ap, ilK_lst, ilK_scr, itK_tup, isK_str, izK_l, izK_t, retK_ap, sifK_t, sifK_f, sexprK_ap, asgK_ap, bG_ok, forK_ap, parK_ok, gK_ok, subK1_ok, subK2_ok, add_int, sub_int, mod_int, lt_int, le_int, gt_int, ge_int, eq_int, eq_str, eq_bl, eq_is, eq_si, eq_bs, eq_sb, eq_nn, ne_int, ne_str, ne_bl, isn_ap, isN_int, isN_str, isN_bl, isN_tup, isN_lst, isN_non, ix_lst, ix_tup, ix_scr, len_lst, len_tup, int_int, list_lst, list_tup, tuple_lst, tuple_tup, asB_bl, getD0, getDS, set0, setS, at0, atS, map_some', bind_some', List.length_cons, List.length_nil, List.any_cons, List.any_nil, decide_true, decide_false, and_self, Nat.reduceLeDiff, Nat.reduceAdd, if_true, Int.reduceLT, Int.reduceNeg, Int.reducePow, Int.reduceToNat, Int.reduceLE, Nat.reduceLT, Int.reduceAdd, Int.reduceSub, Bool.not_true, Bool.not_false, Int.reduceEq, bne_self_eq_false, Bool.false_bne, Bool.true_bne, Int.reduceBNe, isa, Bool.or_false, atl0, atl1, len0, len1, len2, len3, sName, show ¬ ([110, 97, 109, 101] = [102, 105, 101, 108, 100]) by decide, show ¬ ([110, 97, 109, 101] = [110, 117, 109, 98, 101, 114]) by decide, callPK_ok (isName_nm h) rfl]
    rfl
  | .field z y, h => by
    show endP (mIsPlain [some (Pl.field z y).d] []) = _
    have h' := Bool.and_eq_true_iff.mp (show (isNm z && isCol y) = true from h)
    simp only [mIsPlain, Pl.d, ↓seq_ap, ↓var_ap, ↓c_ap, ↓bin_ap, ↓tst_ap, ↓not_ap, ↓and_ap, ↓or_ap, ↓if_ap, ↓andv_ap, ↓orv_ap, ↓notv_ap, ↓nil_ap, ↓cons_ap, ↓tup_ap, ↓lst_ap, ↓call_ap, ↓callP_ap, ↓callI_ap, ↓perm_ap, ↓nop_ap, ↓smp_ap, ↓sl_ap, ↓chain_ap, ↓isi_ap, ↓lc_ap, ↓lstC_ap, ↓mts_ap, ↓yes_ap, ↓il_ap, ↓it_ap, ↓is_ap, ↓ir1_ap, ↓iz_ap, ↓snil_ap, ↓ret_ap, ↓sif_ap, ↓sexpr_ap, ↓bk_ap, ↓ct_ap, ↓asg_ap, ↓for_ap, ↓par_ap, ↓gname_ap, ↓gnil_ap, ↓gcons_ap, ↓gtup_ap, ↓gsub_ap, bR_ok, bR_ex, rt_some, sq_nx, sq_rt, sq_bk, sq_ct, sq_ex, bS_ok, bS_ex, binK1_ap, binK2_ap, tstK_b, notK_ap, andK_t, andK_f, orK_t, orK_f, ifK_t, ifK_f, andV_t, andV_f, orV_t, orV_f, notV_c, consK1_ap, consK2_ap, tupK_ok, lstK_ok, callK_ap, permK_ap, smP_int, slK1_ap, slK2_ap, slK3_ap, sl_lst, sl_scr, sl_tup, chK1_ap, chK2_ap, chK3_t, chK3_f, chK4_ap, isiK_int, isiK_str, isiK_bl, isiK_non, isiK_tup, isiK_lst, mtsK_str, mtsK2_ap, ilK_lst, ilK_scr, itK_tup, isK_str, izK_l, izK_t, retK_ap, sifK_t, sifK_f, sexprK_ap, asgK_ap, bG_ok, forK_ap, parK_ok, gK_ok, subK1_ok, subK2_ok, add_int, sub_int, mod_int, lt_int, le_int, gt_int, ge_int, eq_int, eq_str, eq_bl, eq_is, eq_si, eq_bs, eq_sb, eq_nn, ne_int, ne_str, ne_bl, isn_ap, isN_int, isN_str, isN_bl, isN_tup, isN_lst, isN_non, ix_lst, ix_tup, ix_scr, len_lst, len_tup, int_int, list_lst, list_tup, tuple_lst, tuple_tup, asB_bl, getD0, getDS, set0, setS, at0, atS, map_some', bind_some', List.length_cons, List.length_nil, List.any_cons, List.any_nil, decide_true, decide_false, and_self, Nat.reduceLeDiff, Nat.reduceAdd, if_true, Int.reduceLT, Int.reduceNeg, Int.reducePow, Int.reduceToNat, Int.reduceLE, Nat.reduceLT, Int.reduceAdd, Int.reduceSub, Bool.not_true, Bool.not_false, Int.reduceEq, bne_self_eq_false, Bool.false_bne, Bool.true_bne, Int.reduceBNe, isa, Bool.or_false, atl0, atl1, atl2, len0, len1, len2, len3, sField, callPK_ok (isName_nm h'.1) rfl, callPK_ok (isCol_c h'.2) rfl]
    rfl
  | .own y, h => by
    show endP (mIsPlain [some (Pl.own y).d] []) = _
    simp only [mIsPlain, Pl.d, ↓seq_ap, ↓var_ap, ↓c_ap, ↓bin_ap, ↓tst_ap, ↓not_ap, ↓and_ap, ↓or_ap, ↓if_ap, ↓andv_ap, ↓orv_ap, ↓notv_ap, ↓nil_ap, ↓cons_ap, ↓tup_ap, ↓lst_ap, ↓call_ap, ↓callP_ap, ↓callI_ap, ↓perm_ap, ↓nop_ap, ↓smp_ap, ↓sl_ap, ↓chain_ap, ↓isi_ap, ↓lc_ap, ↓lstC_ap, ↓mts_ap, ↓yes_ap, ↓il_ap, ↓it_ap, ↓is_ap, ↓ir1_ap, ↓iz_ap, ↓snil_ap, ↓ret_ap, ↓sif_ap, ↓sexpr_ap, ↓bk_ap, ↓ct_ap, ↓asg_ap, ↓for_ap, ↓par_ap, ↓gname_ap, ↓gnil_ap, ↓gcons_ap, ↓gtup_ap, ↓gsub_ap, bR_ok, bR_ex, rt_some, sq_nx, sq_rt, sq_bk, sq_ct, sq_ex, bS_ok, bS_ex, binK1_ap, binK2_ap, tstK_b, notK_ap, andK_t, andK_f, orK_t, orK_f, ifK_t, ifK_f, andV_t, andV_f, orV_t, orV_f, notV_c, consK1_ap, consK2_ap, tupK_ok, lstK_ok, callK_ap, permK_ap, smP_int, slK1_ap, slK2_ap, slK3_ap, sl_lst, sl_scr, sl_tup, chK1_ap, chK2_ap, chK3_t, chK3_f, chK4_ap, isiK_int, isiK_str, isiK_bl, isiK_non, isiK_tup, isiK_lst, mtsK_str, mtsK2_ap, ilK_lst, ilK_scr, itK_tup, isK_str, izK_l, izK_t, retK_ap, sifK_t, sifK_f, sexprK_ap, asgK_ap, bG_ok, forK_ap, parK_ok, gK_ok, subK1_ok, subK2_ok, add_int, sub_int, mod_int, lt_int, le_int, gt_int, ge_int, eq_int, eq_str, eq_bl, eq_is, eq_si, eq_bs, eq_sb, eq_nn, ne_int, ne_str, ne_bl, isn_ap, isN_int, isN_str, isN_bl, isN_tup, isN_lst, isN_non, ix_lst, ix_tup, ix_scr, len_lst, len_tup, int_int, list_lst, list_tup, tuple_lst, tuple_tup, asB_bl, getD0, getDS, set0, setS, at0, atS, map_some', bind_some', List.length_cons, List.length_nil, List.any_cons, List.any_nil, decide_true, decide_false, and_self, Nat.reduceLeDiff, Nat.reduceAdd, if_true, Int.reduceLT, Int.reduceNeg, Int.reducePow, Int.reduceToNat, Int.reduceLE, Nat.reduceLT, Int.reduceAdd, Int.reduceSub, Bool.not_true, Bool.not_false, Int.reduceEq, bne_self_eq_false, Bool.false_bne, Bool.true_bne, Int.reduceBNe, isa, Bool.or_false, atl0, atl1, atl2, len0, len1, len2, len3, sOwn, show ¬ ([111, 119, 110] = [102, 105, 101, 108, 100]) by decide, show ¬ ([111, 119, 110] = [110, 117, 109, 98, 101, 114]) by decide, show ¬ ([111, 119, 110] = [110, 97, 109, 101]) by decide, in_on, show [111, 119, 110] ∈ [[111, 119, 110], [110, 101, 120, 116]] by decide, callPK_ok (isCol_c h) rfl]
    rfl
  | .next y, h => by
    show endP (mIsPlain [some (Pl.next y).d] []) = _
    simp only [mIsPlain, Pl.d, ↓seq_ap, ↓var_ap, ↓c_ap, ↓bin_ap, ↓tst_ap, ↓not_ap, ↓and_ap, ↓or_ap, ↓if_ap, ↓andv_ap, ↓orv_ap, ↓notv_ap, ↓nil_ap, ↓cons_ap, ↓tup_ap, ↓lst_ap, ↓call_ap, ↓callP_ap, ↓callI_ap, ↓perm_ap, ↓nop_ap, ↓smp_ap, ↓sl_ap, ↓chain_ap, ↓isi_ap, ↓lc_ap, ↓lstC_ap, ↓mts_ap, ↓yes_ap, ↓il_ap, ↓it_ap, ↓is_ap, ↓ir1_ap, ↓iz_ap, ↓snil_ap, ↓ret_ap, ↓sif_ap, ↓sexpr_ap, ↓bk_ap, ↓ct_ap, ↓asg_ap, ↓for_ap, ↓par_ap, ↓gname_ap, ↓gnil_ap, ↓gcons_ap, ↓gtup_ap, ↓gsub_ap, bR_ok, bR_ex, rt_some, sq_nx, sq_rt, sq_bk, sq_ct, sq_ex, bS_ok, bS_ex, binK1_ap, binK2_ap, tstK_b, notK_ap, andK_t, andK_f, orK_t, orK_f, ifK_t, ifK_f, andV_t, andV_f, orV_t, orV_f, notV_c, consK1_ap, consK2_ap, tupK_ok, lstK_ok, callK_ap, permK_ap, smP_int, slK1_ap, slK2_ap, slK3_ap, sl_lst, sl_scr, sl_tup, chK1_ap, chK2_ap, chK3_t, chK3_f, chK4_ap, isiK_int, isiK_str, isiK_bl, isiK_non, isiK_tup, isiK_lst, mtsK_str, mtsK2_ap, ilK_lst, ilK_scr, itK_tup, isK_str, izK_l, izK_t, retK_ap, sifK_t, sifK_f, sexprK_ap, asgK_ap, bG_ok, forK_ap, parK_ok, gK_ok, subK1_ok, subK2_ok, add_int, sub_int, mod_int, lt_int, le_int, gt_int, ge_int, eq_int, eq_str, eq_bl, eq_is, eq_si, eq_bs, eq_sb, eq_nn, ne_int, ne_str, ne_bl, isn_ap, isN_int, isN_str, isN_bl, isN_tup, isN_lst, isN_non, ix_lst, ix_tup, ix_scr, len_lst, len_tup, int_int, list_lst, list_tup, tuple_lst, tuple_tup, asB_bl, getD0, getDS, set0, setS, at0, atS, map_some', bind_some', List.length_cons, List.length_nil, List.any_cons, List.any_nil, decide_true, decide_false, and_self, Nat.reduceLeDiff, Nat.reduceAdd, if_true, Int.reduceLT, Int.reduceNeg, Int.reducePow, Int.reduceToNat, Int.reduceLE, Nat.reduceLT, Int.reduceAdd, Int.reduceSub, Bool.not_true, Bool.not_false, Int.reduceEq, bne_self_eq_false, Bool.false_bne, Bool.true_bne, Int.reduceBNe, isa, Bool.or_false, atl0, atl1, atl2, len0, len1, len2, len3, sNext, show ¬ ([110, 101, 120, 116] = [102, 105, 101, 108, 100]) by decide, show ¬ ([110, 101, 120, 116] = [110, 117, 109, 98, 101, 114]) by decide, show ¬ ([110, 101, 120, 116] = [110, 97, 109, 101]) by decide, in_on, show [110, 101, 120, 116] ∈ [[111, 119, 110], [110, 101, 120, 116]] by decide, callPK_ok (isCol_c h) rfl]
    rfl
theorem Pl.noRef : ∀ p : Pl, PD.noRef p.d = true
  | .num _ => rfl
  | .name _ => rfl
  | .field _ _ => rfl
  | .own _ => rfl
  | .next _ => rfl
theorem Vl.noRef : ∀ v : Vl, PD.noRef v.d = true
  | .pl p => p.noRef
  | .plus p m => by
    show (true && (PD.noRef p.d && (true && true))) = true
    rw [p.noRef]; rfl
def mIsValue : MS :=
    (msSeq (msIf (mAnd (mTst (mIsi [.tup] (mVar 0))) (mAnd (mTst (mBin dEq (mCall dLen (mCons (mVar 0) mNil)) (mC (.int 3)))) (mAnd (mTst (mIsi [.str] (mBin dIx (mVar 0) (mC (.int 0))))) (mTst (mBin dEq (mBin dIx (mVar 0) (mC (.int 0))) (mC (.str [112, 108, 117, 115]))))))) (msRet (mAndV (mCallP F_isPlain (mCons (mBin dIx (mVar 0) (mC (.int 1))) mNil)) (mCallP F_isCon (mCons (mBin dIx (mVar 0) (mC (.int 2))) mNil)))) msNil)
    (msRet (mCallP F_isPlain (mCons (mVar 0) mNil))))
def F_isValue : PF := runP 1 mIsValue
theorem go1 {d : D} (h : noRef d = true) : noRef.go [d] = true := by rw [noRef.go, h]; rfl
theorem isValue_ok : ∀ {v : Vl}, v.ok = true → F_isValue [v.d] = some (.ok (.bl true))
  | .plus p m, h => by
    have h' := Bool.and_eq_true_iff.mp (show (p.ok && isCon m) = true from h)
    have e := isCon_int m
    rw [h'.2] at e
    show endP (mIsValue [some (.tup [.str sPlus, p.d, .int m])] []) = _
    simp only [mIsValue, ↓seq_ap, ↓var_ap, ↓c_ap, ↓bin_ap, ↓tst_ap, ↓not_ap, ↓and_ap, ↓or_ap, ↓if_ap, ↓andv_ap, ↓orv_ap, ↓notv_ap, ↓nil_ap, ↓cons_ap, ↓tup_ap, ↓lst_ap, ↓call_ap, ↓callP_ap, ↓callI_ap, ↓perm_ap, ↓nop_ap, ↓smp_ap, ↓sl_ap, ↓chain_ap, ↓isi_ap, ↓lc_ap, ↓lstC_ap, ↓mts_ap, ↓yes_ap, ↓il_ap, ↓it_ap, ↓is_ap, ↓ir1_ap, ↓iz_ap, ↓snil_ap, ↓ret_ap, ↓sif_ap, ↓sexpr_ap, ↓bk_ap, ↓ct_ap, ↓asg_ap, ↓for_ap, ↓par_ap, ↓gname_ap, ↓gnil_ap, ↓gcons_ap, ↓gtup_ap, ↓gsub_ap, bR_ok, bR_ex, rt_some, sq_nx, sq_rt, sq_bk, sq_ct, sq_ex, bS_ok, bS_ex, binK1_ap, binK2_ap, tstK_b, notK_ap, andK_t, andK_f, orK_t, orK_f, ifK_t, ifK_f, andV_t, andV_f, orV_t, orV_f, notV_c, consK1_ap, consK2_ap, tupK_ok, lstK_ok, callK_ap, permK_ap, smP_int, slK1_ap, slK2_ap, slK3_ap, sl_lst, sl_scr, sl_tup, chK1_ap, chK2_ap, chK3_t, chK3_f, chK4_ap, isiK_int, isiK_str, isiK_bl, isiK_non, isiK_tup, isiK_lst, mtsK_str, mtsK2_ap, ilK_lst, ilK_scr, itK_tup, isK_str, izK_l, izK_t, retK_ap, sifK_t, sifK_f, sexprK_ap, asgK_ap, bG_ok, forK_ap, parK_ok, gK_ok, subK1_ok, subK2_ok, add_int, sub_int, mod_int, lt_int, le_int, gt_int, ge_int, eq_int, eq_str, eq_bl, eq_is, eq_si, eq_bs, eq_sb, eq_nn, ne_int, ne_str, ne_bl, isn_ap, isN_int, isN_str, isN_bl, isN_tup, isN_lst, isN_non, ix_lst, ix_tup, ix_scr, len_lst, len_tup, int_int, list_lst, list_tup, tuple_lst, tuple_tup, asB_bl, getD0, getDS, set0, setS, at0, atS, map_some', bind_some', List.length_cons, List.length_nil, List.any_cons, List.any_nil, decide_true, decide_false, and_self, Nat.reduceLeDiff, Nat.reduceAdd, if_true, Int.reduceLT, Int.reduceNeg, Int.reducePow, Int.reduceToNat, Int.reduceLE, Nat.reduceLT, Int.reduceAdd, Int.reduceSub, Bool.not_true, Bool.not_false, Int.reduceEq, bne_self_eq_false, Bool.false_bne, Bool.true_bne, Int.reduceBNe, isa, Bool.or_false, atl0, atl1, atl2, len0, len1, len2, len3, sPlus, callPK_ok (isPlain_ok h'.1) (go1 p.noRef), callPK_ok e rfl]
    rfl
  | .pl p, h => by
    have e := isPlain_ok (p := p) h
    show endP (mIsValue [some p.d] []) = _
    cases p with
    | num n =>
      have e' : F_isPlain [.tup [.str [110, 117, 109, 98, 101, 114], .int n]] = some (.ok (.bl true)) := e
      simp only [mIsValue, Pl.d, ↓seq_ap, ↓var_ap, ↓c_ap, ↓bin_ap, ↓tst_ap, ↓not_ap, ↓and_ap, ↓or_ap, ↓if_ap, ↓andv_ap, ↓orv_ap, ↓notv_ap, ↓nil_ap, ↓cons_ap, ↓tup_ap, ↓lst_ap, ↓call_ap, ↓callP_ap, ↓callI_ap, ↓perm_ap, ↓nop_ap, ↓smp_ap, ↓sl_ap, ↓chain_ap, ↓isi_ap, ↓lc_ap, ↓lstC_ap, ↓mts_ap, ↓yes_ap, ↓il_ap, ↓it_ap, ↓is_ap, ↓ir1_ap, ↓iz_ap, ↓snil_ap, ↓ret_ap, ↓sif_ap, ↓sexpr_ap, ↓bk_ap, ↓ct_ap, ↓asg_ap, ↓for_ap, ↓par_ap, ↓gname_ap, ↓gnil_ap, ↓gcons_ap, ↓gtup_ap, ↓gsub_ap, bR_ok, bR_ex, rt_some, sq_nx, sq_rt, sq_bk, sq_ct, sq_ex, bS_ok, bS_ex, binK1_ap, binK2_ap, tstK_b, notK_ap, andK_t, andK_f, orK_t, orK_f, ifK_t, ifK_f, andV_t, andV_f, orV_t, orV_f, notV_c, consK1_ap, consK2_ap, tupK_ok, lstK_ok, callK_ap, permK_ap, smP_int, slK1_ap, slK2_ap, slK3_ap, sl_lst, sl_scr, sl_tup, chK1_ap, chK2_ap, chK3_t, chK3_f, chK4_ap, isiK_int, isiK_str, isiK_bl, isiK_non, isiK_tup, isiK_lst, mtsK_str, mtsK2_ap, ilK_lst, ilK_scr, itK_tup, isK_str, izK_l, izK_t, retK_ap, sifK_t, sifK_f, sexprK_ap, asgK_ap, bG_ok, forK_ap, parK_ok, gK_ok, subK1_ok, subK2_ok, add_int, sub_int, mod_int, lt_int, le_int, gt_int, ge_int, eq_int, eq_str, eq_bl, eq_is, eq_si, eq_bs, eq_sb, eq_nn, ne_int, ne_str, ne_bl, isn_ap, isN_int, isN_str, isN_bl, isN_tup, isN_lst, isN_non, ix_lst, ix_tup, ix_scr, len_lst, len_tup, int_int, list_lst, list_tup, tuple_lst, tuple_tup, asB_bl, getD0, getDS, set0, setS, at0, atS, map_some', bind_some', List.length_cons, List.length_nil, List.any_cons, List.any_nil, decide_true, decide_false, and_self, Nat.reduceLeDiff, Nat.reduceAdd, if_true, Int.reduceLT, Int.reduceNeg, Int.reducePow, Int.reduceToNat, Int.reduceLE, Nat.reduceLT, Int.reduceAdd, Int.reduceSub, Bool.not_true, Bool.not_false, Int.reduceEq, bne_self_eq_false, Bool.false_bne, Bool.true_bne, Int.reduceBNe, isa, Bool.or_false, atl0, atl1, atl2, len0, len1, len2, len3, sNumber, callPK_ok e' rfl]
      rfl
    | name z =>
      have e' : F_isPlain [.tup [.str [110, 97, 109, 101], .str z]] = some (.ok (.bl true)) := e
      simp only [mIsValue, Pl.d, ↓seq_ap, ↓var_ap, ↓c_ap, ↓bin_ap, ↓tst_ap, ↓not_ap, ↓and_ap, ↓or_ap, ↓if_ap, ↓andv_ap, ↓orv_ap, ↓notv_ap, ↓nil_ap, ↓cons_ap, ↓tup_ap, ↓lst_ap, ↓call_ap, ↓callP_ap, ↓callI_ap, ↓perm_ap, ↓nop_ap, ↓smp_ap, ↓sl_ap, ↓chain_ap, ↓isi_ap, ↓lc_ap, ↓lstC_ap, ↓mts_ap, ↓yes_ap, ↓il_ap, ↓it_ap, ↓is_ap, ↓ir1_ap, ↓iz_ap, ↓snil_ap, ↓ret_ap, ↓sif_ap, ↓sexpr_ap, ↓bk_ap, ↓ct_ap, ↓asg_ap, ↓for_ap, ↓par_ap, ↓gname_ap, ↓gnil_ap, ↓gcons_ap, ↓gtup_ap, ↓gsub_ap, bR_ok, bR_ex, rt_some, sq_nx, sq_rt, sq_bk, sq_ct, sq_ex, bS_ok, bS_ex, binK1_ap, binK2_ap, tstK_b, notK_ap, andK_t, andK_f, orK_t, orK_f, ifK_t, ifK_f, andV_t, andV_f, orV_t, orV_f, notV_c, consK1_ap, consK2_ap, tupK_ok, lstK_ok, callK_ap, permK_ap, smP_int, slK1_ap, slK2_ap, slK3_ap, sl_lst, sl_scr, sl_tup, chK1_ap, chK2_ap, chK3_t, chK3_f, chK4_ap, isiK_int, isiK_str, isiK_bl, isiK_non, isiK_tup, isiK_lst, mtsK_str, mtsK2_ap, ilK_lst, ilK_scr, itK_tup, isK_str, izK_l, izK_t, retK_ap, sifK_t, sifK_f, sexprK_ap, asgK_ap, bG_ok, forK_ap, parK_ok, gK_ok, subK1_ok, subK2_ok, add_int, sub_int, mod_int, lt_int, le_int, gt_int, ge_int, eq_int, eq_str, eq_bl, eq_is, eq_si, eq_bs, eq_sb, eq_nn, ne_int, ne_str, ne_bl, isn_ap, isN_int, isN_str, isN_bl, isN_tup, isN_lst, isN_non, ix_lst, ix_tup, ix_scr, len_lst, len_tup, int_int, list_lst, list_tup, tuple_lst, tuple_tup, asB_bl, getD0, getDS, set0, setS, at0, atS, map_some', bind_some', List.length_cons, List.length_nil, List.any_cons, List.any_nil, decide_true, decide_false, and_self, Nat.reduceLeDiff, Nat.reduceAdd, if_true, Int.reduceLT, Int.reduceNeg, Int.reducePow, Int.reduceToNat, Int.reduceLE, Nat.reduceLT, Int.reduceAdd, Int.reduceSub, Bool.not_true, Bool.not_false, Int.reduceEq, bne_self_eq_false, Bool.false_bne, Bool.true_bne, Int.reduceBNe, isa, Bool.or_false, atl0, atl1, atl2, len0, len1, len2, len3, sName, callPK_ok e' rfl]
      rfl
    | field z y =>
      have e' : F_isPlain [.tup [.str [102, 105, 101, 108, 100], .str z, .str y]] = some (.ok (.bl true)) := e
      simp only [mIsValue, Pl.d, ↓seq_ap, ↓var_ap, ↓c_ap, ↓bin_ap, ↓tst_ap, ↓not_ap, ↓and_ap, ↓or_ap, ↓if_ap, ↓andv_ap, ↓orv_ap, ↓notv_ap, ↓nil_ap, ↓cons_ap, ↓tup_ap, ↓lst_ap, ↓call_ap, ↓callP_ap, ↓callI_ap, ↓perm_ap, ↓nop_ap, ↓smp_ap, ↓sl_ap, ↓chain_ap, ↓isi_ap, ↓lc_ap, ↓lstC_ap, ↓mts_ap, ↓yes_ap, ↓il_ap, ↓it_ap, ↓is_ap, ↓ir1_ap, ↓iz_ap, ↓snil_ap, ↓ret_ap, ↓sif_ap, ↓sexpr_ap, ↓bk_ap, ↓ct_ap, ↓asg_ap, ↓for_ap, ↓par_ap, ↓gname_ap, ↓gnil_ap, ↓gcons_ap, ↓gtup_ap, ↓gsub_ap, bR_ok, bR_ex, rt_some, sq_nx, sq_rt, sq_bk, sq_ct, sq_ex, bS_ok, bS_ex, binK1_ap, binK2_ap, tstK_b, notK_ap, andK_t, andK_f, orK_t, orK_f, ifK_t, ifK_f, andV_t, andV_f, orV_t, orV_f, notV_c, consK1_ap, consK2_ap, tupK_ok, lstK_ok, callK_ap, permK_ap, smP_int, slK1_ap, slK2_ap, slK3_ap, sl_lst, sl_scr, sl_tup, chK1_ap, chK2_ap, chK3_t, chK3_f, chK4_ap, isiK_int, isiK_str, isiK_bl, isiK_non, isiK_tup, isiK_lst, mtsK_str, mtsK2_ap, ilK_lst, ilK_scr, itK_tup, isK_str, izK_l, izK_t, retK_ap, sifK_t, sifK_f, sexprK_ap, asgK_ap, bG_ok, forK_ap, parK_ok, gK_ok, subK1_ok, subK2_ok, add_int, sub_int, mod_int, lt_int, le_int, gt_int, ge_int, eq_int, eq_str, eq_bl, eq_is, eq_si, eq_bs, eq_sb, eq_nn, ne_int, ne_str, ne_bl, isn_ap, isN_int, isN_str, isN_bl, isN_tup, isN_lst, isN_non, ix_lst, ix_tup, ix_scr, len_lst, len_tup, int_int, list_lst, list_tup, tuple_lst, tuple_tup, asB_bl, getD0, getDS, set0, setS, at0, atS, map_some', bind_some', List.length_cons, List.length_nil, List.any_cons, List.any_nil, decide_true, decide_false, and_self, Nat.reduceLeDiff, Nat.reduceAdd, if_true, Int.reduceLT, Int.reduceNeg, Int.reducePow, Int.reduceToNat, Int.reduceLE, Nat.reduceLT, Int.reduceAdd, Int.reduceSub, Bool.not_true, Bool.not_false, Int.reduceEq, bne_self_eq_false, Bool.false_bne, Bool.true_bne, Int.reduceBNe, isa, Bool.or_false, atl0, atl1, atl2, len0, len1, len2, len3, sField, show ¬ ([102, 105, 101, 108, 100] = [112, 108, 117, 115]) by decide, callPK_ok e' rfl]
      rfl
    | own y =>
      have e' : F_isPlain [.tup [.str [111, 119, 110], .str y]] = some (.ok (.bl true)) := e
      simp only [mIsValue, Pl.d, ↓seq_ap, ↓var_ap, ↓c_ap, ↓bin_ap, ↓tst_ap, ↓not_ap, ↓and_ap, ↓or_ap, ↓if_ap, ↓andv_ap, ↓orv_ap, ↓notv_ap, ↓nil_ap, ↓cons_ap, ↓tup_ap, ↓lst_ap, ↓call_ap, ↓callP_ap, ↓callI_ap, ↓perm_ap, ↓nop_ap, ↓smp_ap, ↓sl_ap, ↓chain_ap, ↓isi_ap, ↓lc_ap, ↓lstC_ap, ↓mts_ap, ↓yes_ap, ↓il_ap, ↓it_ap, ↓is_ap, ↓ir1_ap, ↓iz_ap, ↓snil_ap, ↓ret_ap, ↓sif_ap, ↓sexpr_ap, ↓bk_ap, ↓ct_ap, ↓asg_ap, ↓for_ap, ↓par_ap, ↓gname_ap, ↓gnil_ap, ↓gcons_ap, ↓gtup_ap, ↓gsub_ap, bR_ok, bR_ex, rt_some, sq_nx, sq_rt, sq_bk, sq_ct, sq_ex, bS_ok, bS_ex, binK1_ap, binK2_ap, tstK_b, notK_ap, andK_t, andK_f, orK_t, orK_f, ifK_t, ifK_f, andV_t, andV_f, orV_t, orV_f, notV_c, consK1_ap, consK2_ap, tupK_ok, lstK_ok, callK_ap, permK_ap, smP_int, slK1_ap, slK2_ap, slK3_ap, sl_lst, sl_scr, sl_tup, chK1_ap, chK2_ap, chK3_t, chK3_f, chK4_ap, isiK_int, isiK_str, isiK_bl, isiK_non, isiK_tup, isiK_lst, mtsK_str, mtsK2_ap, ilK_lst, ilK_scr, itK_tup, isK_str, izK_l, izK_t, retK_ap, sifK_t, sifK_f, sexprK_ap, asgK_ap, bG_ok, forK_ap, parK_ok, gK_ok, subK1_ok, subK2_ok, add_int, sub_int, mod_int, lt_int, le_int, gt_int, ge_int, eq_int, eq_str, eq_bl, eq_is, eq_si, eq_bs, eq_sb, eq_nn, ne_int, ne_str, ne_bl, isn_ap, isN_int, isN_str, isN_bl, isN_tup, isN_lst, isN_non, ix_lst, ix_tup, ix_scr, len_lst, len_tup, int_int, list_lst, list_tup, tuple_lst, tuple_tup, asB_bl, getD0, getDS, set0, setS, at0, atS, map_some', bind_some', List.length_cons, List.length_nil, List.any_cons, List.any_nil, decide_true, decide_false, and_self, Nat.reduceLeDiff, Nat.reduceAdd, if_true, Int.reduceLT, Int.reduceNeg, Int.reducePow, Int.reduceToNat, Int.reduceLE, Nat.reduceLT, Int.reduceAdd, Int.reduceSub, Bool.not_true, Bool.not_false, Int.reduceEq, bne_self_eq_false, Bool.false_bne, Bool.true_bne, Int.reduceBNe, isa, Bool.or_false, atl0, atl1, atl2, len0, len1, len2, len3, sOwn, callPK_ok e' rfl]
      rfl
    | next y =>
      have e' : F_isPlain [.tup [.str [110, 101, 120, 116], .str y]] = some (.ok (.bl true)) := e
      simp only [mIsValue, Pl.d, ↓seq_ap, ↓var_ap, ↓c_ap, ↓bin_ap, ↓tst_ap, ↓not_ap, ↓and_ap, ↓or_ap, ↓if_ap, ↓andv_ap, ↓orv_ap, ↓notv_ap, ↓nil_ap, ↓cons_ap, ↓tup_ap, ↓lst_ap, ↓call_ap, ↓callP_ap, ↓callI_ap, ↓perm_ap, ↓nop_ap, ↓smp_ap, ↓sl_ap, ↓chain_ap, ↓isi_ap, ↓lc_ap, ↓lstC_ap, ↓mts_ap, ↓yes_ap, ↓il_ap, ↓it_ap, ↓is_ap, ↓ir1_ap, ↓iz_ap, ↓snil_ap, ↓ret_ap, ↓sif_ap, ↓sexpr_ap, ↓bk_ap, ↓ct_ap, ↓asg_ap, ↓for_ap, ↓par_ap, ↓gname_ap, ↓gnil_ap, ↓gcons_ap, ↓gtup_ap, ↓gsub_ap, bR_ok, bR_ex, rt_some, sq_nx, sq_rt, sq_bk, sq_ct, sq_ex, bS_ok, bS_ex, binK1_ap, binK2_ap, tstK_b, notK_ap, andK_t, andK_f, orK_t, orK_f, ifK_t, ifK_f, andV_t, andV_f, orV_t, orV_f, notV_c, consK1_ap, consK2_ap, tupK_ok, lstK_ok, callK_ap, permK_ap, smP_int, slK1_ap, slK2_ap, slK3_ap, sl_lst, sl_scr, sl_tup, chK1_ap, chK2_ap, chK3_t, chK3_f, chK4_ap, isiK_int, isiK_str, isiK_bl, isiK_non, isiK_tup, isiK_lst, mtsK_str, mtsK2_ap, ilK_lst, ilK_scr, itK_tup, isK_str, izK_l, izK_t, retK_ap, sifK_t, sifK_f, sexprK_ap, asgK_ap, bG_ok, forK_ap, parK_ok, gK_ok, subK1_ok, subK2_ok, add_int, sub_int, mod_int, lt_int, le_int, gt_int, ge_int, eq_int, eq_str, eq_bl, eq_is, eq_si, eq_bs, eq_sb, eq_nn, ne_int, ne_str, ne_bl, isn_ap, isN_int, isN_str, isN_bl, isN_tup, isN_lst, isN_non, ix_lst, ix_tup, ix_scr, len_lst, len_tup, int_int, list_lst, list_tup, tuple_lst, tuple_tup, asB_bl, getD0, getDS, set0, setS, at0, atS, map_some', bind_some', List.length_cons, List.length_nil, List.any_cons, List.any_nil, decide_true, decide_false, and_self, Nat.reduceLeDiff, Nat.reduceAdd, if_true, Int.reduceLT, Int.reduceNeg, Int.reducePow, Int.reduceToNat, Int.reduceLE, Nat.reduceLT, Int.reduceAdd, Int.reduceSub, Bool.not_true, Bool.not_false, Int.reduceEq, bne_self_eq_false, Bool.false_bne, Bool.true_bne, Int.reduceBNe, isa, Bool.or_false, atl0, atl1, atl2, len0, len1, len2, len3, sNext, callPK_ok e' rfl]
      rfl
end PD

namespace PD
open PySem PySem.Spec PyProof.Rows L2
/-! ## new names -/
theorem asTs_map : ∀ zs : List (List Nat), asTs (zs.map .str) = some zs
  | [] => rfl
  | z :: zs => by
    rw [List.map_cons]
    unfold asTs
    rw [asTs_map zs]; rfl
theorem join_nil : ∀ zs : List (List Nat), joinT [] zs = zs.flatten
  | [] => rfl
  | [x] => by simp [joinT]
  | x :: y :: r => by
    have := join_nil (y :: r)
    unfold joinT
    rw [this]
    simp
theorem join_lst {h : EH} {zs : List (List Nat)} (e : (zs.map List.length).sum ≤ 16777216) : dJoin h [] [.lst (zs.map .str)] = some (.str zs.flatten) := by
  show (match asTs (zs.map .str) with
      | some zs => if (zs.map List.length).sum + zs.length * 0 ≤ 16777216 then some (D.str (joinT [] zs)) else none
      | none => none) = _
  rw [asTs_map]
  show (if (zs.map List.length).sum + zs.length * 0 ≤ 16777216 then some (D.str (joinT [] zs)) else none) = _
  rw [if_pos (by omega), join_nil]
theorem singles : ∀ {ys : List D}, (∀ y ∈ ys, ∃ c ∈ abc, y = .str [c]) → ∃ cs : List Nat, cs.length = ys.length ∧ (∀ c ∈ cs, c ∈ abc) ∧ ys = (cs.map fun c => [c]).map .str
  | [], _ => ⟨[], rfl, (fun _ h => nomatch h), rfl⟩
  | y :: ys, h => by
    obtain ⟨c, hc, e⟩ := h y List.mem_cons_self
    obtain ⟨cs, h1, h2, h3⟩ := singles fun z hz => h z (List.mem_cons_of_mem _ hz)
    refine ⟨c :: cs, congrArg Nat.succ h1, fun z hz => ?_, by rw [e, h3]; rfl⟩
    rcases List.mem_cons.mp hz with e | e
    · rw [e]; exact hc
    · exact h2 z e
theorem flat_singles (cs : List Nat) : (cs.map fun c => [c]).flatten = cs := by
  induction cs with
  | nil => rfl
  | cons c cs ih => simp [ih]
theorem sum_singles (cs : List Nat) : ((cs.map fun c => [c]).map List.length).sum = cs.length := by
  induction cs with
  | nil => rfl
  | cons c cs ih =>
    simp only [List.map_cons, List.sum_cons, ih, List.length_cons, List.length_nil]
    omega
theorem cut_lo {α : Type} {xs : List α} {a : Nat} (h : a ≤ xs.length) : cutD xs none (some (a : Int)) = xs.take a := by
  unfold cutD
  have e1 : HT.sIx xs.length 0 none = 0 := rfl
  have e2 : HT.sIx xs.length xs.length (some (a : Int)) = a := by
    show (if ((a : Int)) < 0 then ((a : Int) + (xs.length : Int)).toNat else min (a : Int).toNat xs.length) = _
    rw [if_neg (by omega)]
    show min a xs.length = _
    omega
  rw [e1, e2]
  simp
theorem cut_hi {α : Type} {xs : List α} {a : Nat} (h : a ≤ xs.length) : cutD xs (some (a : Int)) none = xs.drop a := by
  unfold cutD
  have e1 : HT.sIx xs.length xs.length none = xs.length := rfl
  have e2 : HT.sIx xs.length 0 (some (a : Int)) = a := by
    show (if ((a : Int)) < 0 then ((a : Int) + (xs.length : Int)).toNat else min (a : Int).toNat xs.length) = _
    rw [if_neg (by omega)]
    show min a xs.length = _
    omega
  rw [e1, e2]
  rw [List.take_of_length_le (by rw [List.length_drop]; omega)]
def abcAt (n : Nat) : Nat := abc.getD (n % 26) 0
theorem abc_at {f k : Nat} (hf : f < 26) (hk : k ≤ 26) : atI abc ((f : Int) + (k : Int) - 26) = some (abcAt (f + k)) := by
  have key : ∀ n : Nat, n < 52 → atI abc ((n : Int) - 26) = some (abcAt n) := by decide +kernel
  have := key (f + k) (by omega)
  rw [← this]
  congr 1
theorem abcAt_mem (n : Nat) : abcAt n ∈ abc := by
  have key : ∀ m : Nat, m < 26 → abc.getD m 0 ∈ abc := by decide +kernel
  exact key _ (Nat.mod_lt _ (by decide))
theorem abcAt_inj {f i j : Nat} (hi : i < 26) (hj : j < 26) (e : abcAt (f + i) = abcAt (f + j)) : i = j := by
  have key : ∀ a : Nat, a < 26 → ∀ b : Nat, b < 26 → abc.getD a 0 = abc.getD b 0 → a = b := by decide +kernel
  have := key _ (Nat.mod_lt (f + i) (by decide)) _ (Nat.mod_lt (f + j) (by decide)) e
  omega
def row (stem : List Nat) (a f k : Nat) : List Nat := stem.take a ++ [abcAt (f + k)] ++ stem.drop a
def fixR (r : List Nat) : List Nat := if r ∈ resv then r ++ [113] else r
theorem row_len {stem : List Nat} {a f k : Nat} (h : a ≤ stem.length) : (row stem a f k).length = stem.length + 1 := by
  unfold row
  simp
  omega
theorem row_abc {stem : List Nat} {a f k : Nat} (h : ∀ c ∈ stem, c ∈ abc) : ∀ c ∈ row stem a f k, c ∈ abc := by
  intro c hc
  unfold row at hc
  simp only [List.mem_append, List.mem_singleton] at hc
  rcases hc with (hc | hc) | hc
  · exact h c (List.mem_of_mem_take hc)
  · rw [hc]; exact abcAt_mem _
  · exact h c (List.mem_of_mem_drop hc)
theorem row_inj {stem : List Nat} {a f i j : Nat} (hi : i < 26) (hj : j < 26) (e : row stem a f i = row stem a f j) : i = j := by
  unfold row at e
  have e1 := List.append_inj_left e (by simp)
  have e2 := List.append_inj_right e1 rfl
  exact abcAt_inj hi hj (by simpa using e2)
theorem fix_nm {r : List Nat} (h1 : 1 ≤ r.length) (h5 : r.length ≤ 5) (ha : ∀ c ∈ r, c ∈ abc) : isNm (fixR r) = true := by
  unfold fixR
  by_cases q : r ∈ resv
  · rw [if_pos q]
    have key : ∀ w ∈ resv, isNm (w ++ [113]) = true := by decide +kernel
    exact key r q
  · rw [if_neg q]
    unfold isNm
    simp only [Bool.and_eq_true, decide_eq_true_eq, List.all_eq_true, Bool.not_eq_true', decide_eq_false_iff_not]
    exact ⟨h1, by omega, q, ha⟩
theorem fix_inj {r s : List Nat} (l : r.length = s.length) (e : fixR r = fixR s) : r = s := by
  unfold fixR at e
  by_cases q : r ∈ resv <;> by_cases p : s ∈ resv
  · rw [if_pos q, if_pos p] at e
    exact List.append_inj_left e l
  · rw [if_pos q, if_neg p] at e
    have := congrArg List.length e
    simp at this
    omega
  · rw [if_neg q, if_pos p] at e
    have := congrArg List.length e
    simp at this
    omega
  · rw [if_neg q, if_neg p] at e
    exact e
def mReserved : MS :=
    (msRet (mLst (mCons (mC (.str [97, 110, 100])) (mCons (mC (.str [102, 111, 117, 110, 100])) (mCons (mC (.str [107, 101, 121])) (mCons (mC (.str [110, 101, 120, 116])) (mCons (mC (.str [110, 111, 116])) (mCons (mC (.str [111, 114])) (mCons (mC (.str [111, 119, 110])) (mCons (mC (.str [115, 101, 116])) (mCons (mC (.str [116, 114, 117, 101])) (mCons (mC (.str [119, 104, 101, 114, 101])) mNil))))))))))))
def F_reserved : PF := runP 0 mReserved
theorem reserved_ok : F_reserved [] = some (.ok (.lst (resv.map .str))) := rfl
def mNew : MS :=
    (msSeq (msAsg (mC (.str [97, 98, 99, 100, 101, 102, 103, 104, 105, 106, 107, 108, 109, 110, 111, 112, 113, 114, 115, 116, 117, 118, 119, 120, 121, 122])) (mgName 2))
    (msSeq (msAsg (mMtS dJoin (mC (.str [])) (mCons (mLc [7] (miR1 (mCons (mCallI F_pull (mCons (mVar 0) (mCons (mC (.int 5)) mNil))) mNil)) (mgName 7) mYes (mCallI F_any (mCons (mVar 0) (mCons (mVar 2) mNil)))) mNil)) (mgName 3))
    (msSeq (msAsg (mTup (mCons (mCallI F_pull (mCons (mVar 0) (mCons (mBin dAdd (mCall dLen (mCons (mVar 3) mNil)) (mC (.int 1))) mNil))) (mCons (mCallI F_pull (mCons (mVar 0) (mCons (mC (.int 26)) mNil))) mNil))) (mgTup 2 (mgCons (mgName 5) (mgCons (mgName 6) mgNil))))
    (msSeq (msAsg (mLc [7] (miR1 (mCons (mVar 1) mNil)) (mgName 7) mYes (mBin dAdd (mBin dAdd (mSl (mVar 3) mNoP (mSmP (mVar 5))) (mBin dIx (mVar 2) (mBin dSub (mBin dAdd (mVar 6) (mVar 7)) (mC (.int 26))))) (mSl (mVar 3) (mSmP (mVar 5)) mNoP))) (mgName 4))
    (msRet (mLc [8] (miL (mVar 4)) (mgName 8) mYes (mIf (mTst (mBin dInA (mVar 8) (mCallP F_reserved mNil))) (mBin dAdd (mVar 8) (mC (.str [113]))) (mVar 8))))))))
def F_new : IF := runI 9 mNew
theorem new_names {k : Cell} (hk : BagI k) {many : Nat} (hm : many ≤ 26) (t : EH) : ∃ (zs : List (List Nat)) (k' : Cell), F_new [.ref 0, .int many] (k :: t) = some (.ok (.lst (zs.map .str)), k' :: t) ∧ BagI k' ∧ zs.length = many ∧ (∀ z ∈ zs, isNm z = true) ∧ zs.Nodup := by
  obtain ⟨n, k1, e1, n0, n5, hk1⟩ := pull_ok hk (n := 5) (by decide) (by decide) t
  obtain ⟨ys, k2, e2, ly, py, hk2⟩ := lcL_bag (g := mgName 7) (e := mCallI F_any (mCons (mVar 0) (mCons (mVar 2) mNil))) (ε := [some (.ref 0), some (.int many), some (.str abc), none, none, none, none, none, none]) (fun y => ∃ c ∈ abc, y = .str [c]) (ds := rngD 0 n.toNat) (fun d _ k t hk => by
    obtain ⟨c, k', e, hc, hk'⟩ := any_str hk (z := abc) (by decide) (by decide) t
    refine ⟨[some (.ref 0), some (.int many), some (.str abc), none, none, none, none, some d, none], .str [c], k', rfl, ?_, ⟨c, hc, rfl⟩, hk'⟩
    simp only [↓seq_ap, ↓var_ap, ↓c_ap, ↓bin_ap, ↓tst_ap, ↓not_ap, ↓and_ap, ↓or_ap, ↓if_ap, ↓andv_ap, ↓orv_ap, ↓notv_ap, ↓nil_ap, ↓cons_ap, ↓tup_ap, ↓lst_ap, ↓call_ap, ↓callP_ap, ↓callI_ap, ↓perm_ap, ↓nop_ap, ↓smp_ap, ↓sl_ap, ↓chain_ap, ↓isi_ap, ↓lc_ap, ↓lstC_ap, ↓mts_ap, ↓yes_ap, ↓il_ap, ↓it_ap, ↓is_ap, ↓ir1_ap, ↓iz_ap, ↓snil_ap, ↓ret_ap, ↓sif_ap, ↓sexpr_ap, ↓bk_ap, ↓ct_ap, ↓asg_ap, ↓for_ap, ↓par_ap, ↓gname_ap, ↓gnil_ap, ↓gcons_ap, ↓gtup_ap, ↓gsub_ap, bR_ok, bR_ex, rt_some, sq_nx, sq_rt, sq_bk, sq_ct, sq_ex, bS_ok, bS_ex, binK1_ap, binK2_ap, tstK_b, notK_ap, andK_t, andK_f, orK_t, orK_f, ifK_t, ifK_f, andV_t, andV_f, orV_t, orV_f, notV_c, consK1_ap, consK2_ap, tupK_ok, lstK_ok, callK_ap, permK_ap, smP_int, slK1_ap, slK2_ap, slK3_ap, sl_lst, sl_scr, sl_tup, chK1_ap, chK2_ap, chK3_t, chK3_f, chK4_ap, isiK_int, isiK_str, isiK_bl, isiK_non, isiK_tup, isiK_lst, mtsK_str, mtsK2_ap, ilK_lst, ilK_scr, itK_tup, isK_str, izK_l, izK_t, retK_ap, sifK_t, sifK_f, sexprK_ap, asgK_ap, bG_ok, forK_ap, parK_ok, gK_ok, subK1_ok, subK2_ok, add_int, sub_int, mod_int, lt_int, le_int, gt_int, ge_int, eq_int, eq_str, eq_bl, eq_is, eq_si, eq_bs, eq_sb, eq_nn, ne_int, ne_str, ne_bl, isn_ap, isN_int, isN_str, isN_bl, isN_tup, isN_lst, isN_non, ix_lst, ix_tup, ix_scr, len_lst, len_tup, int_int, list_lst, list_tup, tuple_lst, tuple_tup, asB_bl, getD0, getDS, set0, setS, at0, atS, map_some', bind_some', List.length_cons, List.length_nil, List.any_cons, List.any_nil, e]) k1 t hk1
  obtain ⟨cs, lc, ac, rfl⟩ := singles py
  have ln : cs.length ≤ 4 := by
    rw [lc, ly]
    unfold rngD
    simp
    omega
  have lk := lcK_ok (vs := [7]) (ε := [some (.ref 0), some (.int many), some (.str abc), none, none, none, none, none, none]) e2 (by rw [← lc]; omega)
  have ej : ∀ h : EH, dJoin h [] [.lst ((cs.map fun c => [c]).map .str)] = some (.str cs) := fun h => by
    rw [join_lst (by rw [sum_singles]; omega), flat_singles]
  obtain ⟨a, k3, e3, a0, a1, hk3⟩ := pull_ok hk2 (n := (cs.length : Int) + 1) (by omega) (by omega) t
  obtain ⟨f, k4, e4, f0, f1, hk4⟩ := pull_ok hk3 (n := 26) (by decide) (by decide) t
  obtain ⟨a, rfl⟩ : ∃ b : Nat, a = (b : Int) := ⟨a.toNat, by omega⟩
  obtain ⟨f, rfl⟩ : ∃ b : Nat, f = (b : Int) := ⟨f.toNat, by omega⟩
  have ha : a ≤ cs.length := by omega
  have hf : f < 26 := by omega
  have lr := lcL_map (g := mgName 7) (t := mYes) (e := mBin dAdd (mBin dAdd (mSl (mVar 3) mNoP (mSmP (mVar 5))) (mBin dIx (mVar 2) (mBin dSub (mBin dAdd (mVar 6) (mVar 7)) (mC (.int 26))))) (mSl (mVar 3) (mSmP (mVar 5)) mNoP))
    (ε := [some (.ref 0), some (.int many), some (.str abc), some (.str cs), none, some (.int a), some (.int f), none, none]) (h := k4 :: t) (ds := rngD 0 many) (fun d => match d with
      | .int i => .str (row cs a f i.toNat)
      | _ => .non) fun d hd => by
      unfold rngD at hd
      obtain ⟨i, hi, rfl⟩ := List.mem_map.mp hd
      have hi' : i < many := List.mem_range.mp hi
      refine ⟨[some (.ref 0), some (.int many), some (.str abc), some (.str cs), none, some (.int a), some (.int f), some (.int (0 + (i : Nat))), none], rfl, rfl, ?_⟩
      have l1 : (cs.take a).length + ([abcAt (f + i)] : List Nat).length ≤ 16777216 := by simp; omega
      have l2 : (cs.take a ++ [abcAt (f + i)]).length + (cs.drop a).length ≤ 16777216 := by simp; omega
      simp only [↓seq_ap, ↓var_ap, ↓c_ap, ↓bin_ap, ↓tst_ap, ↓not_ap, ↓and_ap, ↓or_ap, ↓if_ap, ↓andv_ap, ↓orv_ap, ↓notv_ap, ↓nil_ap, ↓cons_ap, ↓tup_ap, ↓lst_ap, ↓call_ap, ↓callP_ap, ↓callI_ap, ↓perm_ap, ↓nop_ap, ↓smp_ap, ↓sl_ap, ↓chain_ap, ↓isi_ap, ↓lc_ap, ↓lstC_ap, ↓mts_ap, ↓yes_ap, ↓il_ap, ↓it_ap, ↓is_ap, ↓ir1_ap, ↓iz_ap, ↓snil_ap, ↓ret_ap, ↓sif_ap, ↓sexpr_ap, ↓bk_ap, ↓ct_ap, ↓asg_ap, ↓for_ap, ↓par_ap, ↓gname_ap, ↓gnil_ap, ↓gcons_ap, ↓gtup_ap, ↓gsub_ap, bR_ok, bR_ex, rt_some, sq_nx, sq_rt, sq_bk, sq_ct, sq_ex, bS_ok, bS_ex, binK1_ap, binK2_ap, tstK_b, notK_ap, andK_t, andK_f, orK_t, orK_f, ifK_t, ifK_f, andV_t, andV_f, orV_t, orV_f, notV_c, consK1_ap, consK2_ap, tupK_ok, lstK_ok, callK_ap, permK_ap, smP_int, slK1_ap, slK2_ap, slK3_ap, sl_lst, sl_scr, sl_tup, chK1_ap, chK2_ap, chK3_t, chK3_f, chK4_ap, isiK_int, isiK_str, isiK_bl, isiK_non, isiK_tup, isiK_lst, mtsK_str, mtsK2_ap, ilK_lst, ilK_scr, itK_tup, isK_str, izK_l, izK_t, retK_ap, sifK_t, sifK_f, sexprK_ap, asgK_ap, bG_ok, forK_ap, parK_ok, gK_ok, subK1_ok, subK2_ok, add_int, sub_int, mod_int, lt_int, le_int, gt_int, ge_int, eq_int, eq_str, eq_bl, eq_is, eq_si, eq_bs, eq_sb, eq_nn, ne_int, ne_str, ne_bl, isn_ap, isN_int, isN_str, isN_bl, isN_tup, isN_lst, isN_non, ix_lst, ix_tup, ix_scr, len_lst, len_tup, int_int, list_lst, list_tup, tuple_lst, tuple_tup, asB_bl, getD0, getDS, set0, setS, at0, atS, map_some', bind_some', List.length_cons, List.length_nil, List.any_cons, List.any_nil, decide_true, decide_false, and_self, Nat.reduceLeDiff, Nat.reduceAdd, if_true, Int.reduceLT, Int.reduceNeg, Int.reducePow, Int.reduceToNat, Int.reduceLE, Nat.reduceLT, Int.reduceAdd, Int.reduceSub, Bool.not_true, Bool.not_false, Int.reduceEq, bne_self_eq_false, Bool.false_bne, Bool.true_bne, Int.reduceBNe, sl_str _ _ (show cs.length ≤ 16777216 by omega), cut_lo ha, cut_hi ha, ix_str (show abc.length ≤ 16777216 by decide), Int.zero_add, abc_at hf (show i ≤ 26 by omega), add_str l1, add_str l2]
      rfl
  have er : (rngD 0 many).map (fun d => match d with
      | .int i => .str (row cs a f i.toNat)
      | _ => .non) = (((List.range many).map fun i => row cs a f i).map D.str) := by
    unfold rngD
    rw [List.map_map, List.map_map]
    refine List.map_congr_left fun i _ => ?_
    show D.str (row cs a f ((0 : Int) + (i : Int)).toNat) = .str (row cs a f i)
    rw [Int.zero_add]; rfl
  rw [er] at lr
  have lk2 := lcK_ok (vs := [7]) (ε := [some (.ref 0), some (.int many), some (.str abc), some (.str cs), none, some (.int a), some (.int f), none, none]) lr (by simp; omega)
  have lf := lcL_map (g := mgName 8) (t := mYes) (e := mIf (mTst (mBin dInA (mVar 8) (mCallP F_reserved mNil))) (mBin dAdd (mVar 8) (mC (.str [113]))) (mVar 8))
    (ε := [some (.ref 0), some (.int many), some (.str abc), some (.str cs), some (.lst (((List.range many).map fun i => row cs a f i).map D.str)), some (.int a), some (.int f), none, none]) (h := k4 :: t) (ds := ((List.range many).map fun i => row cs a f i).map D.str) (fun d => match d with
      | .str z => .str (fixR z)
      | _ => .non) fun d hd => by
      obtain ⟨z, hz, rfl⟩ := List.mem_map.mp hd
      obtain ⟨i, hi, rfl⟩ := List.mem_map.mp hz
      have lz : (row cs a f i).length = cs.length + 1 := row_len ha
      refine ⟨_, rfl, rfl, ?_⟩
      have l1 : (row cs a f i).length + ([113] : List Nat).length ≤ 16777216 := by rw [lz]; simp; omega
      by_cases q : row cs a f i ∈ resv
      · simp only [↓seq_ap, ↓var_ap, ↓c_ap, ↓bin_ap, ↓tst_ap, ↓not_ap, ↓and_ap, ↓or_ap, ↓if_ap, ↓andv_ap, ↓orv_ap, ↓notv_ap, ↓nil_ap, ↓cons_ap, ↓tup_ap, ↓lst_ap, ↓call_ap, ↓callP_ap, ↓callI_ap, ↓perm_ap, ↓nop_ap, ↓smp_ap, ↓sl_ap, ↓chain_ap, ↓isi_ap, ↓lc_ap, ↓lstC_ap, ↓mts_ap, ↓yes_ap, ↓il_ap, ↓it_ap, ↓is_ap, ↓ir1_ap, ↓iz_ap, ↓snil_ap, ↓ret_ap, ↓sif_ap, ↓sexpr_ap, ↓bk_ap, ↓ct_ap, ↓asg_ap, ↓for_ap, ↓par_ap, ↓gname_ap, ↓gnil_ap, ↓gcons_ap, ↓gtup_ap, ↓gsub_ap, bR_ok, bR_ex, rt_some, sq_nx, sq_rt, sq_bk, sq_ct, sq_ex, bS_ok, bS_ex, binK1_ap, binK2_ap, tstK_b, notK_ap, andK_t, andK_f, orK_t, orK_f, ifK_t, ifK_f, andV_t, andV_f, orV_t, orV_f, notV_c, consK1_ap, consK2_ap, tupK_ok, lstK_ok, callK_ap, permK_ap, smP_int, slK1_ap, slK2_ap, slK3_ap, sl_lst, sl_scr, sl_tup, chK1_ap, chK2_ap, chK3_t, chK3_f, chK4_ap, isiK_int, isiK_str, isiK_bl, isiK_non, isiK_tup, isiK_lst, mtsK_str, mtsK2_ap, ilK_lst, ilK_scr, itK_tup, isK_str, izK_l, izK_t, retK_ap, sifK_t, sifK_f, sexprK_ap, asgK_ap, bG_ok, forK_ap, parK_ok, gK_ok, subK1_ok, subK2_ok, add_int, sub_int, mod_int, lt_int, le_int, gt_int, ge_int, eq_int, eq_str, eq_bl, eq_is, eq_si, eq_bs, eq_sb, eq_nn, ne_int, ne_str, ne_bl, isn_ap, isN_int, isN_str, isN_bl, isN_tup, isN_lst, isN_non, ix_lst, ix_tup, ix_scr, len_lst, len_tup, int_int, list_lst, list_tup, tuple_lst, tuple_tup, asB_bl, getD0, getDS, set0, setS, at0, atS, map_some', bind_some', List.length_cons, List.length_nil, List.any_cons, List.any_nil, decide_true, decide_false, and_self, Nat.reduceLeDiff, Nat.reduceAdd, if_true, Int.reduceLT, Int.reduceNeg, Int.reducePow, Int.reduceToNat, Int.reduceLE, Nat.reduceLT, Int.reduceAdd, Int.reduceSub, Bool.not_true, Bool.not_false, Int.reduceEq, bne_self_eq_false, Bool.false_bne, Bool.true_bne, Int.reduceBNe, callPK_ok reserved_ok rfl, in_strsL, q, add_str l1, fixR]
      · simp only [↓seq_ap, ↓var_ap, ↓c_ap, ↓bin_ap, ↓tst_ap, ↓not_ap, ↓and_ap, ↓or_ap, ↓if_ap, ↓andv_ap, ↓orv_ap, ↓notv_ap, ↓nil_ap, ↓cons_ap, ↓tup_ap, ↓lst_ap, ↓call_ap, ↓callP_ap, ↓callI_ap, ↓perm_ap, ↓nop_ap, ↓smp_ap, ↓sl_ap, ↓chain_ap, ↓isi_ap, ↓lc_ap, ↓lstC_ap, ↓mts_ap, ↓yes_ap, ↓il_ap, ↓it_ap, ↓is_ap, ↓ir1_ap, ↓iz_ap, ↓snil_ap, ↓ret_ap, ↓sif_ap, ↓sexpr_ap, ↓bk_ap, ↓ct_ap, ↓asg_ap, ↓for_ap, ↓par_ap, ↓gname_ap, ↓gnil_ap, ↓gcons_ap, ↓gtup_ap, ↓gsub_ap, bR_ok, bR_ex, rt_some, sq_nx, sq_rt, sq_bk, sq_ct, sq_ex, bS_ok, bS_ex, binK1_ap, binK2_ap, tstK_b, notK_ap, andK_t, andK_f, orK_t, orK_f, ifK_t, ifK_f, andV_t, andV_f, orV_t, orV_f, notV_c, consK1_ap, consK2_ap, tupK_ok, lstK_ok, callK_ap, permK_ap, smP_int, slK1_ap, slK2_ap, slK3_ap, sl_lst, sl_scr, sl_tup, chK1_ap, chK2_ap, chK3_t, chK3_f, chK4_ap, isiK_int, isiK_str, isiK_bl, isiK_non, isiK_tup, isiK_lst, mtsK_str, mtsK2_ap, ilK_lst, ilK_scr, itK_tup, isK_str, izK_l, izK_t, retK_ap, sifK_t, sifK_f, sexprK_ap, asgK_ap, bG_ok, forK_ap, parK_ok, gK_ok, subK1_ok, subK2_ok, add_int, sub_int, mod_int, lt_int, le_int, gt_int, ge_int, eq_int, eq_str, eq_bl, eq_is, eq_si, eq_bs, eq_sb, eq_nn, ne_int, ne_str, ne_bl, isn_ap, isN_int, isN_str, isN_bl, isN_tup, isN_lst, isN_non, ix_lst, ix_tup, ix_scr, len_lst, len_tup, int_int, list_lst, list_tup, tuple_lst, tuple_tup, asB_bl, getD0, getDS, set0, setS, at0, atS, map_some', bind_some', List.length_cons, List.length_nil, List.any_cons, List.any_nil, decide_true, decide_false, and_self, Nat.reduceLeDiff, Nat.reduceAdd, if_true, Int.reduceLT, Int.reduceNeg, Int.reducePow, Int.reduceToNat, Int.reduceLE, Nat.reduceLT, Int.reduceAdd, Int.reduceSub, Bool.not_true, Bool.not_false, Int.reduceEq, bne_self_eq_false, Bool.false_bne, Bool.true_bne, Int.reduceBNe, callPK_ok reserved_ok rfl, in_strsL, q, add_str l1, fixR, if_false]
  have lk3 := lcK_ok (vs := [8]) (ε := [some (.ref 0), some (.int many), some (.str abc), some (.str cs), some (.lst (((List.range many).map fun i => row cs a f i).map D.str)), some (.int a), some (.int f), none, none]) lf (by simp; omega)
  refine ⟨((List.range many).map fun i => row cs a f i).map fixR, k4, ?_, hk4, by simp, fun z hz => ?_, ?_⟩
  · show endI _ (mNew [some (.ref 0), some (.int many), none, none, none, none, none, none, none] (k :: t)) = _
    have e1' : F_pull [.ref 0, .int 5] (k :: t) = some (.ok (.int n), k1 :: t) := e1
    have e3' : F_pull [.ref 0, .int ((cs.length : Int) + 1)] (k2 :: t) = some (.ok (.int a), k3 :: t) := e3
    have e4' : F_pull [.ref 0, .int 26] (k3 :: t) = some (.ok (.int f), k4 :: t) := e4
    have hn : -(2 ^ 62) ≤ n ∧ n < 2 ^ 62 := by omega
    have hmany : -(2 ^ 62) ≤ (many : Int) ∧ (many : Int) < 2 ^ 62 := by omega
    have r1 : ∀ h : EH, ir1K [.int n] h = some (.ok (rngD 0 n.toNat), h) := fun h => ir1K_ok hn
    have r2 : ∀ h : EH, ir1K [.int many] h = some (.ok (rngD 0 many), h) := fun h => ir1K_ok hmany
    have lk' : lcK [7] (mgName 7) mYes (mCallI F_any (mCons (mVar 0) (mCons (mVar 2) mNil))) [some (.ref 0), some (.int many), some (.str [97, 98, 99, 100, 101, 102, 103, 104, 105, 106, 107, 108, 109, 110, 111, 112, 113, 114, 115, 116, 117, 118, 119, 120, 121, 122]), none, none, none, none, none, none] (rngD 0 n.toNat) (k1 :: t) = some (.ok (.lst ((cs.map fun c => [c]).map .str)), k2 :: t) := lk
    have lk2' : lcK [7] (mgName 7) mYes (mBin dAdd (mBin dAdd (mSl (mVar 3) mNoP (mSmP (mVar 5))) (mBin dIx (mVar 2) (mBin dSub (mBin dAdd (mVar 6) (mVar 7)) (mC (.int 26))))) (mSl (mVar 3) (mSmP (mVar 5)) mNoP)) [some (.ref 0), some (.int many), some (.str [97, 98, 99, 100, 101, 102, 103, 104, 105, 106, 107, 108, 109, 110, 111, 112, 113, 114, 115, 116, 117, 118, 119, 120, 121, 122]), some (.str cs), none, some (.int a), some (.int f), none, none] (rngD 0 many) (k4 :: t) = some (.ok (.lst (((List.range many).map fun i => row cs a f i).map D.str)), k4 :: t) := lk2
    have lk3' : lcK [8] (mgName 8) mYes (mIf (mTst (mBin dInA (mVar 8) (mCallP F_reserved mNil))) (mBin dAdd (mVar 8) (mC (.str [113]))) (mVar 8)) [some (.ref 0), some (.int many), some (.str [97, 98, 99, 100, 101, 102, 103, 104, 105, 106, 107, 108, 109, 110, 111, 112, 113, 114, 115, 116, 117, 118, 119, 120, 121, 122]), some (.str cs), some (.lst (((List.range many).map fun i => row cs a f i).map D.str)), some (.int a), some (.int f), none, none] (((List.range many).map fun i => row cs a f i).map D.str) (k4 :: t) = some (.ok (.lst ((((List.range many).map fun i => row cs a f i).map fixR).map .str)), k4 :: t) := by
      rw [show ((((List.range many).map fun i => row cs a f i).map fixR).map D.str) = (((List.range many).map fun i => row cs a f i).map D.str).map (fun d => match d with
      | .str z => .str (fixR z)
      | _ => .non) by simp only [List.map_map]; rfl]
      exact lk3
    simp only [mNew, ↓seq_ap, ↓var_ap, ↓c_ap, ↓bin_ap, ↓tst_ap, ↓not_ap, ↓and_ap, ↓or_ap, ↓if_ap, ↓andv_ap, ↓orv_ap, ↓notv_ap, ↓nil_ap, ↓cons_ap, ↓tup_ap, ↓lst_ap, ↓call_ap, ↓callP_ap, ↓callI_ap, ↓perm_ap, ↓nop_ap, ↓smp_ap, ↓sl_ap, ↓chain_ap, ↓isi_ap, ↓lc_ap, ↓lstC_ap, ↓mts_ap, ↓yes_ap, ↓il_ap, ↓it_ap, ↓is_ap, ↓ir1_ap, ↓iz_ap, ↓snil_ap, ↓ret_ap, ↓sif_ap, ↓sexpr_ap, ↓bk_ap, ↓ct_ap, ↓asg_ap, ↓for_ap, ↓par_ap, ↓gname_ap, ↓gnil_ap, ↓gcons_ap, ↓gtup_ap, ↓gsub_ap, bR_ok, bR_ex, rt_some, sq_nx, sq_rt, sq_bk, sq_ct, sq_ex, bS_ok, bS_ex, binK1_ap, binK2_ap, tstK_b, notK_ap, andK_t, andK_f, orK_t, orK_f, ifK_t, ifK_f, andV_t, andV_f, orV_t, orV_f, notV_c, consK1_ap, consK2_ap, tupK_ok, lstK_ok, callK_ap, permK_ap, smP_int, slK1_ap, slK2_ap, slK3_ap, sl_lst, sl_scr, sl_tup, chK1_ap, chK2_ap, chK3_t, chK3_f, chK4_ap, isiK_int, isiK_str, isiK_bl, isiK_non, isiK_tup, isiK_lst, mtsK_str, mtsK2_ap, ilK_lst, ilK_scr, itK_tup, isK_str, izK_l, izK_t, retK_ap, sifK_t, sifK_f, sexprK_ap, asgK_ap, bG_ok, forK_ap, parK_ok, gK_ok, subK1_ok, subK2_ok, add_int, sub_int, mod_int, lt_int, le_int, gt_int, ge_int, eq_int, eq_str, eq_bl, eq_is, eq_si, eq_bs, eq_sb, eq_nn, ne_int, ne_str, ne_bl, isn_ap, isN_int, isN_str, isN_bl, isN_tup, isN_lst, isN_non, ix_lst, ix_tup, ix_scr, len_lst, len_tup, int_int, list_lst, list_tup, tuple_lst, tuple_tup, asB_bl, getD0, getDS, set0, setS, at0, atS, map_some', bind_some', List.length_cons, List.length_nil, List.any_cons, List.any_nil, decide_true, decide_false, and_self, Nat.reduceLeDiff, Nat.reduceAdd, if_true, Int.reduceLT, Int.reduceNeg, Int.reducePow, Int.reduceToNat, Int.reduceLE, Nat.reduceLT, Int.reduceAdd, Int.reduceSub, Bool.not_true, Bool.not_false, Int.reduceEq, bne_self_eq_false, Bool.false_bne, Bool.true_bne, Int.reduceBNe, e1', r1, lk', ej, len_str (show cs.length ≤ 16777216 by omega), e3', e4', r2, lk2', lk3']
    refine endI_ok rfl ?_
    rw [noRef]
    exact noRef_all fun d hd => by
      obtain ⟨z, _, rfl⟩ := List.mem_map.mp hd
      rfl
  · obtain ⟨r, hr, rfl⟩ := List.mem_map.mp hz
    obtain ⟨i, hi, rfl⟩ := List.mem_map.mp hr
    have lz : (row cs a f i).length = cs.length + 1 := row_len ha
    exact fix_nm (by omega) (by omega) (row_abc ac)
  · rw [List.map_map]
    refine List.pairwise_map.mpr (List.Pairwise.imp_of_mem (R := (· ≠ ·)) (fun {i j} hi hj ne e => ne ?_) List.nodup_range)
    have hi' : i < many := List.mem_range.mp hi
    have hj' : j < many := List.mem_range.mp hj
    exact row_inj (by omega) (by omega) (fix_inj (by rw [row_len ha, row_len ha]) e)
end PD

namespace PD
open PySem PySem.Spec PyProof.Rows L2
/-! ## texts -/
theorem kind1 {s : Nat} (hs : s < 256) : (toS [s]).cps.all (· < 256) = true := by
  show (#[s] : Array Nat).all (· < 256) = true
  simp [hs]
theorem splitD_spl {z : List Nat} {s : Nat} (hs : s < 256) : splitD z [s] = TL.spl [s] 0 [] z := by
  have := TL.split_spl (toS z) (toS [s]) (by show ([s] : List Nat) ≠ []; simp) (TL.kind_ok (kind1 hs))
  exact this
theorem splitD_join {s : Nat} (hs : s < 256) {ps : List (List Nat)} (h : ps ≠ []) (hp : ∀ p ∈ ps, s ∉ p) : splitD (TL.joinL [s] ps) [s] = ps := by
  rw [splitD_spl hs]
  exact TL.spl_join h hp
theorem partD_none {s : Nat} {z : List Nat} (h : s ∉ z) : partD z [s] = (z, [], []) := by
  have := TL.partition_none (y := toS [s]) (s := s) (S := []) rfl (a := toS z) h
  unfold partD
  rw [this]; rfl
theorem partD_app {s : Nat} {a b : List Nat} (h : s ∉ a) : partD (a ++ s :: b) [s] = (a, [s], b) := by
  have := TL.partition_app (y := toS [s]) (s := s) (S := []) rfl (a := toS a) (b := toS b) h
  have e : toS (a ++ s :: b) = toS a ++ toS [s] ++ toS b := by
    show (⟨(a ++ s :: b).toArray⟩ : Str) = ⟨a.toArray ++ [s].toArray ++ b.toArray⟩
    simp
  unfold partD
  rw [e, this]; rfl
theorem decI_nat (n : Nat) : decI (n : Int) = TL.numL n := by
  have := TL.tl_num n
  rw [TL.tl_ofString] at this
  exact this
theorem decI_neg {n : Nat} (h : 0 < n) : decI (-(n : Int)) = 45 :: TL.numL n := by
  obtain ⟨k, rfl⟩ : ∃ k, n = k + 1 := ⟨n - 1, by omega⟩
  have e : toString (-((k + 1 : Nat) : Int)) = "-" ++ toString (k + 1) := rfl
  unfold decI
  rw [e, String.toList_append, List.map_append]
  have e2 := decI_nat (k + 1)
  unfold decI at e2
  have e3 : toString (((k + 1 : Nat) : Int)) = toString (k + 1) := rfl
  rw [e3] at e2
  rw [e2]
  rfl
/-- the two forms of an int's text -/
theorem decI_cases (i : Int) : (0 ≤ i ∧ decI i = TL.numL i.natAbs) ∨ (i < 0 ∧ 0 < i.natAbs ∧ decI i = 45 :: TL.numL i.natAbs) := by
  by_cases h : 0 ≤ i
  · refine .inl ⟨h, ?_⟩
    obtain ⟨n, rfl⟩ : ∃ n : Nat, i = n := ⟨i.toNat, by omega⟩
    rw [decI_nat]; rfl
  · refine .inr ⟨by omega, by omega, ?_⟩
    obtain ⟨n, rfl⟩ : ∃ n : Nat, i = -(n : Int) := ⟨i.natAbs, by omega⟩
    rw [decI_neg (by omega)]
    congr 2
    omega
theorem decI_free {i : Int} {s : Nat} (h : s ≠ 45 ∧ (s < 48 ∨ 57 < s)) : s ∉ decI i := by
  rcases decI_cases i with ⟨_, e⟩ | ⟨_, _, e⟩
  · rw [e]; exact TL.numL_free h.2
  · rw [e]
    intro hm
    rcases List.mem_cons.mp hm with hm | hm
    · exact h.1 hm
    · exact TL.numL_free h.2 hm
theorem numL_pos (n : Nat) : 1 ≤ (TL.numL n).length := by
  cases q : TL.numL n with
  | nil => exact absurd q (TL.numL_ne n)
  | cons _ _ => simp
theorem isCon_abs {i : Int} (h : isCon i = true) : i.natAbs < 10 ^ 31 := by
  unfold isCon at h
  simp only [Bool.and_eq_true, decide_eq_true_eq] at h
  omega
theorem numL_31 {n : Nat} (h : n < 10 ^ 31) : (TL.numL n).length ≤ 31 := TL.numL_len (by decide) h
theorem decI_len {i : Int} (h : i.natAbs < 10 ^ 31) : 1 ≤ (decI i).length ∧ (decI i).length ≤ 32 := by
  have a := numL_31 h
  have b := numL_pos i.natAbs
  rcases decI_cases i with ⟨_, e⟩ | ⟨_, _, e⟩
  · rw [e]; omega
  · rw [e, List.length_cons]; omega
theorem int_dec {i : Int} (h : i.natAbs < 10 ^ 31) : PySem.intText? (toS (decI i)) = some i := by
  have a := numL_31 h
  rcases decI_cases i with ⟨h0, e⟩ | ⟨h0, _, e⟩
  · have := intText_digits (x := toS (decI i)) (by show NumText.AllDigits (decI i); rw [e]; exact TL.numL_digits _) (by show decI i ≠ []; rw [e]; exact TL.numL_ne _) (by rw [len_toS, e]; omega)
    rw [this]
    show some (((NumText.digitsVal (decI i) : Nat) : Int)) = _
    rw [e, TL.numL_val]
    congr 1
    omega
  · have := intText_neg (x := toS (decI i)) (cs := TL.numL i.natAbs) e (TL.numL_digits _) (TL.numL_ne _) (by rw [len_toS, e, List.length_cons]; omega)
    rw [this, TL.numL_val]
    congr 1
    omega
theorem int_txt {h : EH} {i : Int} (hi : i.natAbs < 10 ^ 31) : dInt h [.str (decI i)] = some (.int i) := by
  show (if (decI i).length ≤ 640 then (PySem.intText? (toS (decI i))).map D.int else none) = _
  rw [if_pos (by have := (decI_len hi).2; omega), int_dec hi]; rfl
theorem log_31 {n : Nat} (h : n < 10 ^ 31) : n.log2 < 1920 := by
  by_cases q : n = 0
  · subst q; decide
  · rw [Nat.log2_lt q]
    exact Nat.lt_trans h (by decide)
theorem str_int {h : EH} {i : Int} (hi : i.natAbs < 10 ^ 31) : dStr h [.int i] = some (.str (decI i)) := by
  show (if i.natAbs.log2 < 1920 then some (D.str (decI i)) else none) = _
  rw [if_pos (log_31 hi)]
theorem str_str {h : EH} (z : List Nat) : dStr h [.str z] = some (.str z) := rfl
theorem fmt_int {i : Int} (hi : i.natAbs < 10 ^ 31) : fmt1 (.int i) = some (.str (decI i)) := by
  show (if i.natAbs.log2 < 1920 then some (D.str (decI i)) else none) = _
  rw [if_pos (log_31 hi)]
theorem fmt_str {z : List Nat} (hz : z.length ≤ 16777216) : fmt1 (.str z) = some (.str z) := if_pos hz
theorem sub_hit (cs : List Nat) : Builtin.Str.subAt (toS (45 :: cs)) (toS [45]) 0 = true := by
  show (((45 :: cs).toArray.extract 0 (0 + (toS [45]).length)) == #[45]) = true
  rw [len_toS]
  simp
theorem sub_miss {z : List Nat} (h : z.head? ≠ some 45) : Builtin.Str.subAt (toS z) (toS [45]) 0 = false := by
  show ((z.toArray.extract 0 (0 + (toS [45]).length)) == #[45]) = false
  rw [len_toS]
  cases z with
  | nil => rfl
  | cons c cs =>
    have hc : c ≠ 45 := fun e => h (by rw [e]; rfl)
    simp [hc]
theorem rmp_hit (cs : List Nat) : stL (Txt.removeprefix (toS (45 :: cs)) (toS [45])) = cs := by
  have e : Txt.removeprefix (toS (45 :: cs)) (toS [45]) = Builtin.Str.strSub (toS (45 :: cs)) (toS [45]).length (toS (45 :: cs)).length := by
    unfold Txt.removeprefix Txt.affix
    rw [sub_hit]
    simp [len_toS]
  rw [e]
  show TL.tl (Builtin.Str.strSub (toS (45 :: cs)) (toS [45]).length (toS (45 :: cs)).length) = cs
  rw [TL.tl_strSub_end, len_toS]
  rfl
theorem rmp_miss {z : List Nat} (h : z.head? ≠ some 45) : stL (Txt.removeprefix (toS z) (toS [45])) = z := by
  have e : Txt.removeprefix (toS z) (toS [45]) = toS z := by
    unfold Txt.removeprefix Txt.affix
    rw [sub_miss h]
    simp
  rw [e]; rfl
/-! ## the texts of values -/
def Pl.txt : Pl → List Nat
  | .num n => decI n
  | .name z => z
  | .field z y => z ++ ([46] ++ y)
  | .own y => sOwn ++ ([46] ++ y)
  | .next y => sNext ++ ([46] ++ y)
def pTail (m : Int) : List Nat := if m < 0 then [32, 45, 32] ++ decI (0 - m) else [32, 43, 32] ++ decI m
def Vl.txt : Vl → List Nat
  | .pl p => p.txt
  | .plus p m => p.txt ++ pTail m
theorem nm_mem {z : List Nat} (h : isNm z = true) {c : Nat} (hc : c ∈ z) : c ∈ abc := by
  unfold isNm at h
  simp only [Bool.and_eq_true, List.all_eq_true, decide_eq_true_eq] at h
  exact h.2.2.2 c hc
theorem abc_rng {c : Nat} (h : c ∈ abc) : 97 ≤ c ∧ c ≤ 122 := by
  have key : ∀ c ∈ abc, 97 ≤ c ∧ c ≤ 122 := by decide
  exact key c h
theorem nm_free {z : List Nat} {s : Nat} (h : isNm z = true) (hs : s < 97 ∨ 122 < s) : s ∉ z := fun hm => by
  have := abc_rng (nm_mem h hm)
  omega
theorem col_free {z : List Nat} {s : Nat} (h : isCol z = true) (hs : s < 97 ∨ 122 < s) : s ∉ z := by
  unfold isCol at h
  rw [Bool.or_eq_true] at h
  rcases h with h | h
  · rw [of_decide_eq_true h]
    intro hm
    simp only [List.mem_cons, List.not_mem_nil, or_false] at hm
    omega
  · exact nm_free h hs
theorem ptxt_len {p : Pl} (h : p.ok = true) : p.txt.length ≤ 40 := by
  cases p with
  | num n => have := (decI_len (isCon_abs h)).2; show (decI n).length ≤ 40; omega
  | name z => have := (isNm_len h).2; show z.length ≤ 40; omega
  | field z y =>
    have h' := Bool.and_eq_true_iff.mp (show (isNm z && isCol y) = true from h)
    have a := (isNm_len h'.1).2
    have b := (isCol_len h'.2).2
    show (z ++ ([46] ++ y)).length ≤ 40
    simp
    omega
  | own y =>
    have b := (isCol_len h).2
    show (sOwn ++ ([46] ++ y)).length ≤ 40
    simp [sOwn]
    omega
  | next y =>
    have b := (isCol_len h).2
    show (sNext ++ ([46] ++ y)).length ≤ 40
    simp [sNext]
    omega
theorem ptxt_free {p : Pl} (h : p.ok = true) {s : Nat} (hs : s = 32 ∨ s = 43) : s ∉ p.txt := by
  have hs' : s < 97 ∨ 122 < s := by omega
  have h46 : s ≠ 46 := by omega
  cases p with
  | num n => exact decI_free (by omega)
  | name z => exact nm_free h hs'
  | field z y =>
    have h' := Bool.and_eq_true_iff.mp (show (isNm z && isCol y) = true from h)
    intro hm
    rcases List.mem_append.mp (show s ∈ z ++ ([46] ++ y) from hm) with hm | hm
    · exact nm_free h'.1 hs' hm
    · rcases List.mem_cons.mp hm with hm | hm
      · exact h46 hm
      · exact col_free h'.2 hs' hm
  | own y =>
    intro hm
    rcases List.mem_append.mp (show s ∈ sOwn ++ ([46] ++ y) from hm) with hm | hm
    · simp only [sOwn, List.mem_cons, List.not_mem_nil, or_false] at hm
      omega
    · rcases List.mem_cons.mp hm with hm | hm
      · exact h46 hm
      · exact col_free h hs' hm
  | next y =>
    intro hm
    rcases List.mem_append.mp (show s ∈ sNext ++ ([46] ++ y) from hm) with hm | hm
    · simp only [sNext, List.mem_cons, List.not_mem_nil, or_false] at hm
      omega
    · rcases List.mem_cons.mp hm with hm | hm
      · exact h46 hm
      · exact col_free h hs' hm
theorem vtxt_split {v : Vl} (h : v.ok = true) : splitD v.txt [32] = match v with
    | .pl p => [p.txt]
    | .plus p m => if m < 0 then [p.txt, [45], decI (0 - m)] else [p.txt, [43], decI m] := by
  cases v with
  | pl p =>
    exact splitD_join (s := 32) (by decide) (ps := [p.txt]) (by simp) (by simpa using ptxt_free (p := p) h (.inl rfl))
  | plus p m =>
    have h' := Bool.and_eq_true_iff.mp (show (p.ok && isCon m) = true from h)
    have f1 := ptxt_free h'.1 (s := 32) (.inl rfl)
    have f2 : ∀ i : Int, 32 ∉ decI i := fun i => decI_free (by omega)
    show splitD (p.txt ++ pTail m) [32] = if m < 0 then [p.txt, [45], decI (0 - m)] else [p.txt, [43], decI m]
    unfold pTail
    by_cases q : m < 0
    · rw [if_pos q, if_pos q]
      exact splitD_join (s := 32) (by decide) (ps := [p.txt, [45], decI (0 - m)]) (by simp) (by simp [f1, f2])
    · rw [if_neg q, if_neg q]
      exact splitD_join (s := 32) (by decide) (ps := [p.txt, [43], decI m]) (by simp) (by simp [f1, f2])
end PD

namespace PD
open PySem PySem.Spec PyProof.Rows L2
/-! ## objects, whiles, f-strings, dicts: run -/
section
variable {ε : Ev} {h : EH}
def fldK (Cs : List Str) (f : Str) (x : D) (h1 : EH) : O D := rt (dFld Cs f h1 x) h1
theorem fld_ap (Cs : List Str) (f : Str) (a : M D) : mFld Cs f a ε h = bR (a ε h) (fldK Cs f) := (rfl)
theorem fldK_ap (Cs : List Str) (f : Str) (x : D) : fldK Cs f x h = rt (dFld Cs f h x) h := (rfl)
def meiK2 (F : IF) (x : D) (ds : List D) (h2 : EH) : O D := F (x :: ds) h2
def meiK (C m : Str) (F : IF) (a : M (List D)) (ε : Ev) (x : D) (h1 : EH) : O D := match insD h1 x with
  | some (C', fs) => if C' = C ∧ fs.lookup m = none then bR (a ε h1) (meiK2 F x) else none
  | none => none
theorem mei_ap (C m : Str) (F : IF) (o : M D) (a : M (List D)) : mMeI C m F o a ε h = bR (o ε h) (meiK C m F a ε) := (rfl)
theorem meiK_ok {C m : Str} {F : IF} {a : M (List D)} {x : D} {fs : List (Str × D)} (e : insD h x = some (C, fs)) (l : fs.lookup m = none) : meiK C m F a ε x h = bR (a ε h) (meiK2 F x) := by
  unfold meiK
  rw [e]
  exact if_pos ⟨rfl, l⟩
theorem meiK2_ap (F : IF) (x : D) (ds : List D) : meiK2 F x ds h = F (x :: ds) h := (rfl)
def whK (t : M Bool) (b : MS) (n : Nat) (ε : Ev) (k : Bool) (h1 : EH) : Option (RS × EH) := if k = true then (match b ε h1 with
    | some (.nx ε2, h2) => whL t b n ε2 h2
    | some (.ct ε2, h2) => whL t b n ε2 h2
    | some (.bk ε2, h2) => some (.nx ε2, h2)
    | some (.rt d, h2) => some (.rt d, h2)
    | some (.ex e ε2, h2) => some (.ex e ε2, h2)
    | none => none) else some (.nx ε, h1)
theorem whL_ap (t : M Bool) (b : MS) (n : Nat) : whL t b (n + 1) ε h = bS (t ε h) ε (whK t b n ε) := (rfl)
theorem wh_stop {t : M Bool} {b : MS} {n : Nat} {h1 : EH} (e : t ε h = some (.ok false, h1)) : whL t b (n + 1) ε h = some (.nx ε, h1) := by
  rw [whL_ap, e]; rfl
theorem wh_go {t : M Bool} {b : MS} {n : Nat} {h1 h2 : EH} {ε2 : Ev} (e : t ε h = some (.ok true, h1)) (e2 : b ε h1 = some (.nx ε2, h2)) : whL t b (n + 1) ε h = whL t b n ε2 h2 := by
  rw [whL_ap, e]
  show whK t b n ε true h1 = _
  unfold whK
  rw [if_pos rfl, e2]
def faugK2 (Cs : List Str) (f : Str) (x z : D) (h1 : EH) (ε : Ev) (y : D) (h2 : EH) : Option (RS × EH) := match addI z y with
    | some w => if (insD h1 x).map (·.1) = (insD h2 x).map (·.1) then (putO Cs f h2 x w).map fun h3 => (.nx ε, h3) else none
    | none => none
def faugK (Cs : List Str) (f : Str) (v : M D) (ε : Ev) (x : D) (h1 : EH) : Option (RS × EH) := match dFld Cs f h1 x with
  | some z => bS (v ε h1) ε (faugK2 Cs f x z h1 ε)
  | none => none
theorem faug_ap (Cs : List Str) (f : Str) (o v : M D) : msFAug Cs f o v ε h = bS (o ε h) ε (faugK Cs f v ε) := (rfl)
theorem faugK_ok {Cs : List Str} {f : Str} {v : M D} {x z : D} (e : dFld Cs f h x = some z) : faugK Cs f v ε x h = bS (v ε h) ε (faugK2 Cs f x z h ε) := by
  unfold faugK; rw [e]
theorem faugK2_int {Cs : List Str} {f : Str} {x : D} {i j : Int} : faugK2 Cs f x (.int i) h ε (.int j) h = (putO Cs f h x (.int (i + j))).map fun h3 => (.nx ε, h3) := if_pos rfl
def sfldK2 (Cs : List Str) (f : Str) (ε : Ev) (y x : D) (h2 : EH) : Option (RS × EH) := (putO Cs f h2 x y).map fun h3 => (.nx ε, h3)
def sfldK (Cs : List Str) (f : Str) (o : M D) (ε : Ev) (y : D) (h1 : EH) : Option (RS × EH) := bS (o ε h1) ε (sfldK2 Cs f ε y)
theorem sfld_ap (Cs : List Str) (f : Str) (o v : M D) : msFld Cs f o v ε h = bS (v ε h) ε (sfldK Cs f o ε) := (rfl)
theorem sfldK_ap (Cs : List Str) (f : Str) (o : M D) (y : D) : sfldK Cs f o ε y h = bS (o ε h) ε (sfldK2 Cs f ε y) := (rfl)
theorem sfldK2_ap (Cs : List Str) (f : Str) (y x : D) : sfldK2 Cs f ε y x h = (putO Cs f h x y).map fun h3 => (.nx ε, h3) := (rfl)
def c1K (f : D → Option D) (x : D) (h1 : EH) : O D := rt (f x) h1
theorem c1_ap (f : D → Option D) (a : M D) : mC1 f a ε h = bR (a ε h) (c1K f) := (rfl)
theorem c1K_ap (f : D → Option D) (x : D) : c1K f x h = rt (f x) h := (rfl)
def ir2K (xs : List D) (h1 : EH) : O (List D) := match xs with
  | [.int i, .int j] => if -(2 ^ 62) ≤ i ∧ i < 2 ^ 62 ∧ -(2 ^ 62) ≤ j ∧ j < 2 ^ 62 then some (.ok (rngD i (j - i).toNat), h1) else none
  | _ => none
theorem ir2_ap (a : M (List D)) : miR2 a ε h = bR (a ε h) ir2K := (rfl)
theorem ir2K_ok {i j : Int} (e : -(2 ^ 62) ≤ i ∧ i < 2 ^ 62 ∧ -(2 ^ 62) ≤ j ∧ j < 2 ^ 62) : ir2K [.int i, .int j] h = some (.ok (rngD i (j - i).toNat), h) := if_pos e
/-! for, one step -/
theorem forL_nil (g : MG) (b : MS) : forL g b [] ε h = some (.nx ε, h) := (rfl)
theorem forL_nx {g : MG} {b : MS} {d : D} {ds : List D} {ε1 ε2 : Ev} {h1 h2 : EH} (e1 : g d ε h = some (ε1, h1)) (e2 : b ε1 h1 = some (.nx ε2, h2)) : forL g b (d :: ds) ε h = forL g b ds ε2 h2 := by
  show (match g d ε h with
    | none => none
    | some (ε1, h1) => match b ε1 h1 with
      | some (.nx ε2, h2) => forL g b ds ε2 h2
      | some (.ct ε2, h2) => forL g b ds ε2 h2
      | some (.bk ε2, h2) => some (.nx ε2, h2)
      | some (.rt d, h2) => some (.rt d, h2)
      | some (.ex e ε2, h2) => some (.ex e ε2, h2)
      | none => none) = _
  rw [e1]
  dsimp only
  rw [e2]
theorem forL_rt {g : MG} {b : MS} {d d' : D} {ds : List D} {ε1 : Ev} {h1 h2 : EH} (e1 : g d ε h = some (ε1, h1)) (e2 : b ε1 h1 = some (.rt d', h2)) : forL g b (d :: ds) ε h = some (.rt d', h2) := by
  show (match g d ε h with
    | none => none
    | some (ε1, h1) => match b ε1 h1 with
      | some (.nx ε2, h2) => forL g b ds ε2 h2
      | some (.ct ε2, h2) => forL g b ds ε2 h2
      | some (.bk ε2, h2) => some (.nx ε2, h2)
      | some (.rt d, h2) => some (.rt d, h2)
      | some (.ex e ε2, h2) => some (.ex e ε2, h2)
      | none => none) = _
  rw [e1]
  dsimp only
  rw [e2]
end
/-! ## texts: startswith -/
theorem subAt_pre {z w : List Nat} {k : Nat} (hk : k + w.length ≤ z.length) : Builtin.Str.subAt (toS z) (toS w) k = decide (w <+: z.drop k) := by
  have e : Builtin.Str.subAt (toS z) (toS w) k = ((z.toArray.extract k (k + w.length)) == w.toArray) := by
    show (((toS z).cps.extract k (k + (toS w).length)) == (toS w).cps) = _
    rw [len_toS]; rfl
  rw [e, Bool.eq_iff_iff, decide_eq_true_iff, beq_iff_eq]
  have e2 : z.toArray.extract k (k + w.length) = ((z.drop k).take w.length).toArray := by
    rw [List.extract_toArray]
    congr 1
    rw [List.extract_eq_drop_take]
    congr 1
    omega
  rw [e2]
  constructor
  · intro h
    have h2 : (z.drop k).take w.length = w := by simpa using h
    rw [← h2]
    exact List.take_prefix _ _
  · intro h
    rw [List.prefix_iff_eq_take] at h
    rw [← h]
end PD
namespace PD
open PySem PySem.Spec PyProof.Rows L2
theorem stw3_pre {z w : List Nat} {k : Nat} (hk : k ≤ z.length) : Txt.startswith3 (toS z) (toS w) (k : Int) = decide (w <+: z.drop k) := by
  have e0 : _root_.PySem.fromIndex (toS z).length (k : Int) = k := by
    show (max 0 (if (k : Int) < 0 then (k : Int) + _ else (k : Int))).toNat = k
    rw [if_neg (by omega)]
    omega
  unfold Txt.startswith3
  rw [e0, len_toS, len_toS]
  by_cases q : k + w.length ≤ z.length
  · rw [subAt_pre q]
    simp [q]
  · have n : ¬ w <+: z.drop k := fun h => by
      have := h.length_le
      rw [List.length_drop] at this
      omega
    simp [q, n]
end PD

namespace PV
open PySem PySem.Spec PyProof.Rows L2 PD
def g_GREATEST : D := (.int 1000000000000000000000000000000)
def g_LETTERS : D := (.str [97, 98, 99, 100, 101, 102, 103, 104, 105, 106, 107, 108, 109, 110, 111, 112, 113, 114, 115, 116, 117, 118, 119, 120, 121, 122])
def g_RESERVED : D := (.tup [(.str [97, 110, 100]), (.str [102, 111, 117, 110, 100]), (.str [107, 101, 121]), (.str [110, 101, 120, 116]), (.str [110, 111, 116]), (.str [111, 114]), (.str [111, 119, 110]), (.str [115, 101, 116]), (.str [116, 114, 117, 101]), (.str [119, 104, 101, 114, 101])])
def g_DIGITS : D := (.str [48, 49, 50, 51, 52, 53, 54, 55, 56, 57])
def g_JOINTS : D := (.tup [(.str [97, 110, 100]), (.str [111, 114])])
def g_MOST_DEPTH : D := (.int 6)
def kv_SIGNS : List (List Nat × D) := [([97, 116, 109, 111, 115, 116], (.str [60, 61])), ([98, 101, 108, 111, 119], (.str [60])), ([115, 97, 109, 101], (.str [61]))]
def N__law_draws : List Str := ["_law_script", "_law_seed", "_law_cell"]
def mb__law_draws_0 : MS :=
    (msAsg (mBin dMod (mCall dInt (mCons (mBin dAdd (mBin dAdd (mBin dMul (mVar 1) (mC (.int 44021))) (mBin dMod (mCall dInt (mCons (mVar 2) mNil)) (mC (.int 2147483489)))) (mC (.int 53))) mNil)) (mC (.int 2147483549))) (mgName 1))
def m__law_draws : MS :=
    (msSeq (msAsg (mC (.int 5648)) (mgName 1))
    (msSeq (msFor (miL (mSl (mVar 0) mNoP (mSmP (mC (.int 63))))) (mgName 2) mb__law_draws_0)
    (msRet (mLstC (mCons (mCall dList (mCons (mSl (mVar 0) mNoP (mSmP (mC (.int 63)))) mNil)) (mCons (mC (.int 0)) (mCons (mC (.int 0)) (mCons (mVar 1) (mCons (mC (.int 0)) mNil)))))))))
def F__law_draws : IF := runA N__law_draws.length m__law_draws
def N__law_like : List Str := ["_law_a", "_law_b", "_law_same", "_law_c", "_law_d"]
def m__law_like (F : PF) : MS :=
    (msSeq (msIf (mTst (mIsi [.lst, .tup] (mVar 1))) (msSeq (msAsg (mAndV (mBin dEq (mIsi [.lst] (mVar 0)) (mIsi [.lst] (mVar 1))) (mBin dEq (mIsi [.tup] (mVar 0)) (mIsi [.tup] (mVar 1)))) (mgName 2))
    (msRet (mAndV (mVar 2) (mAndV (mBin dEq (mCall dLen (mCons (mVar 0) mNil)) (mCall dLen (mCons (mVar 1) mNil))) (mCall dAll (mCons (mLc [3, 4] (miZip (mCons (mVar 0) (mCons (mVar 1) mNil))) (mgTup 2 (mgCons (mgName 3) (mgCons (mgName 4) mgNil))) mYes (mCallP F (mCons (mVar 3) (mCons (mVar 4) mNil)))) mNil)))))) msNil)
    (msSeq (msIf (mOr (mTst (mBin (dIsN false) (mVar 0) (mC .non))) (mOr (mTst (mBin (dIsN false) (mVar 1) (mC .non))) (mTst (mBin dNe (mIsi [.bool] (mVar 0)) (mIsi [.bool] (mVar 1)))))) (msRet (mAndV (mBin (dIsN false) (mVar 0) (mC .non)) (mBin (dIsN false) (mVar 1) (mC .non)))) msNil)
    (msRet (mAndV (mBin dEq (mIsi [.int] (mVar 0)) (mIsi [.int] (mVar 1))) (mAndV (mBin dEq (mIsi [.str] (mVar 0)) (mIsi [.str] (mVar 1))) (mBin dEq (mVar 0) (mVar 1)))))))
def F__law_like_ : Nat → PF
  | 0 => fun _ => none
  | t + 1 => runP N__law_like.length (m__law_like (F__law_like_ t))
def F__law_like : PF := F__law_like_ 30
def N__law_pull : List Str := ["_law_bag", "_law_sides", "_law_seed", "_law_cell", "_law_digit"]
def m__law_pull : MS :=
    (msSeq (msAsg (mBin dAdd (mBin dIx (mVar 0) (mC (.int 4))) (mC (.int 1))) (mgSub (mVar 0) (mC (.int 4))))
    (msSeq (msIf (mAnd (mTst (mBin dEq (mBin dIx (mVar 0) (mC (.int 2))) (mC (.int 0)))) (mTst (mBin dLt (mBin dIx (mVar 0) (mC (.int 1))) (mCall dLen (mCons (mBin dIx (mVar 0) (mC (.int 0))) mNil))))) (msSeq (msAsg (mTup (mCons (mBin dIx (mBin dIx (mVar 0) (mC (.int 0))) (mBin dIx (mVar 0) (mC (.int 1)))) (mCons (mBin dAdd (mBin dIx (mVar 0) (mC (.int 1))) (mC (.int 1))) mNil))) (mgTup 2 (mgCons (mgName 3) (mgCons (mgSub (mVar 0) (mC (.int 1))) mgNil))))
    (msSeq (msIf (mTst (mBin dGe (mVar 3) (mBin dPow (mC (.int 10)) (mC (.int 18))))) (msAsg (mVar 3) (mgSub (mVar 0) (mC (.int 2)))) msNil)
    (msAsg (mBin dMod (mCall dInt (mCons (mBin dAdd (mBin dAdd (mBin dMul (mBin dIx (mVar 0) (mC (.int 3))) (mC (.int 38377))) (mBin dMul (mBin dMod (mCall dInt (mCons (mVar 3) mNil)) (mC (.int 2147483489))) (mC (.int 41143)))) (mC (.int 61))) mNil)) (mC (.int 2147483549))) (mgSub (mVar 0) (mC (.int 3)))))) msNil)
    (msSeq (msIf (mTst (mBin dGt (mBin dIx (mVar 0) (mC (.int 2))) (mC (.int 0)))) (msSeq (msAsg (mTup (mCons (mBin dMod (mCall dInt (mCons (mBin dIx (mVar 0) (mC (.int 2))) mNil)) (mVar 1)) (mCons (mBin dDiv (mBin dIx (mVar 0) (mC (.int 2))) (mVar 1)) mNil))) (mgTup 2 (mgCons (mgName 4) (mgCons (mgSub (mVar 0) (mC (.int 2))) mgNil))))
    (msRet (mVar 4))) msNil)
    (msSeq (msAsg (mBin dIx (mVar 0) (mC (.int 3))) (mgName 2))
    (msSeq (msAsg (mBin dMod (mCall dInt (mCons (mBin dAdd (mBin dAdd (mBin dAdd (mBin dPow (mVar 2) (mC (.int 3))) (mBin dMul (mVar 2) (mC (.int 37813)))) (mBin dMul (mBin dIx (mVar 0) (mC (.int 4))) (mC (.int 1299689)))) (mC (.int 65437))) mNil)) (mC (.int 2147483549))) (mgSub (mVar 0) (mC (.int 3))))
    (msRet (mBin dMod (mCall dInt (mCons (mBin dAdd (mBin dDiv (mBin dIx (mVar 0) (mC (.int 3))) (mC (.int 89))) (mBin dMul (mBin dMod (mCall dInt (mCons (mBin dIx (mVar 0) (mC (.int 3))) mNil)) (mC (.int 7919))) (mC (.int 71)))) mNil)) (mVar 1))))))))
def F__law_pull : IF := runI N__law_pull.length m__law_pull
def N__law_any : List Str := ["_law_bag", "_law_rows"]
def m__law_any : MS :=
    (msRet (mBin dIx (mVar 1) (mCallI F__law_pull (mCons (mVar 0) (mCons (mCall dLen (mCons (mVar 1) mNil)) mNil)))))
def F__law_any : IF := runI N__law_any.length m__law_any
def N__law_reserved : List Str := []
def m__law_reserved : MS :=
    (msRet (mLst (mCons (mC (.str [97, 110, 100])) (mCons (mC (.str [102, 111, 117, 110, 100])) (mCons (mC (.str [107, 101, 121])) (mCons (mC (.str [110, 101, 120, 116])) (mCons (mC (.str [110, 111, 116])) (mCons (mC (.str [111, 114])) (mCons (mC (.str [111, 119, 110])) (mCons (mC (.str [115, 101, 116])) (mCons (mC (.str [116, 114, 117, 101])) (mCons (mC (.str [119, 104, 101, 114, 101])) mNil))))))))))))
def F__law_reserved : PF := runP N__law_reserved.length m__law_reserved
def N__law_new_names : List Str := ["_law_bag", "_law_many", "_law_abc", "_law_stem", "_law_rows", "_law_at", "_law_first", "_law_k", "_law_row"]
def me__law_new_names_0 : M D :=
    (mIf (mTst (mBin dInA (mVar 8) (mCallP F__law_reserved mNil))) (mBin dAdd (mVar 8) (mC (.str [113]))) (mVar 8))
def me__law_new_names_1 : M D :=
    (mBin dAdd (mBin dAdd (mSl (mVar 3) mNoP (mSmP (mVar 5))) (mBin dIx (mVar 2) (mBin dSub (mBin dAdd (mVar 6) (mVar 7)) (mC (.int 26))))) (mSl (mVar 3) (mSmP (mVar 5)) mNoP))
def m__law_new_names : MS :=
    (msSeq (msAsg (mC (.str [97, 98, 99, 100, 101, 102, 103, 104, 105, 106, 107, 108, 109, 110, 111, 112, 113, 114, 115, 116, 117, 118, 119, 120, 121, 122])) (mgName 2))
    (msSeq (msAsg (mMtS dJoin (mC (.str [])) (mCons (mLc [7] (miR1 (mCons (mCallI F__law_pull (mCons (mVar 0) (mCons (mC (.int 5)) mNil))) mNil)) (mgName 7) mYes (mCallI F__law_any (mCons (mVar 0) (mCons (mVar 2) mNil)))) mNil)) (mgName 3))
    (msSeq (msAsg (mTup (mCons (mCallI F__law_pull (mCons (mVar 0) (mCons (mBin dAdd (mCall dLen (mCons (mVar 3) mNil)) (mC (.int 1))) mNil))) (mCons (mCallI F__law_pull (mCons (mVar 0) (mCons (mC (.int 26)) mNil))) mNil))) (mgTup 2 (mgCons (mgName 5) (mgCons (mgName 6) mgNil))))
    (msSeq (msAsg (mLc [7] (miR1 (mCons (mVar 1) mNil)) (mgName 7) mYes me__law_new_names_1) (mgName 4))
    (msRet (mLc [8] (miL (mVar 4)) (mgName 8) mYes me__law_new_names_0))))))
def F__law_new_names : IF := runI N__law_new_names.length m__law_new_names
def N__law_near : List Str := ["_law_bag"]
def m__law_near : MS :=
    (msRet (mCallI F__law_any (mCons (mVar 0) (mCons (mLst (mCons (mC (.int 0)) (mCons (mC (.int 1)) (mCons (mC (.int 1)) (mCons (mC (.int 2)) (mCons (mC (.int 3)) (mCons (mBin dSub (mC (.int 0)) (mC (.int 1))) (mCons (mBin dSub (mC (.int 0)) (mC (.int 2))) mNil)))))))) mNil))))
def F__law_near : IF := runI N__law_near.length m__law_near
def N__law_some_value : List Str := ["_law_bag", "_law_pool", "_law_plain"]
def m__law_some_value : MS :=
    (msSeq (msAsg (mCallI F__law_any (mCons (mVar 0) (mCons (mBin dAdd (mVar 1) (mLst (mCons (mTup (mCons (mC (.str [110, 117, 109, 98, 101, 114])) (mCons (mCallI F__law_near (mCons (mVar 0) mNil)) mNil))) mNil))) mNil))) (mgName 2))
    (msRet (mIf (mTst (mBin dEq (mCallI F__law_pull (mCons (mVar 0) (mCons (mC (.int 3)) mNil))) (mC (.int 0)))) (mTup (mCons (mC (.str [112, 108, 117, 115])) (mCons (mVar 2) (mCons (mCallI F__law_near (mCons (mVar 0) mNil)) mNil)))) (mVar 2))))
def F__law_some_value : IF := runI N__law_some_value.length m__law_some_value
def N__law_some_compared : List Str := ["_law_bag", "_law_pool", "_law_one"]
def m__law_some_compared : MS :=
    (msSeq (msAsg (mIf (mTst (mBin dNe (mVar 1) (mLst mNil))) (mCallI F__law_any (mCons (mVar 0) (mCons (mVar 1) mNil))) (mTup (mCons (mC (.str [110, 117, 109, 98, 101, 114])) (mCons (mCallI F__law_near (mCons (mVar 0) mNil)) mNil)))) (mgName 2))
    (msSeq (msIf (mTst (mBin dEq (mCallI F__law_pull (mCons (mVar 0) (mCons (mC (.int 4)) mNil))) (mC (.int 0)))) (msAsg (mTup (mCons (mC (.str [112, 108, 117, 115])) (mCons (mVar 2) (mCons (mCallI F__law_near (mCons (mVar 0) mNil)) mNil)))) (mgName 2)) msNil)
    (msRet (mTup (mCons (mCallI F__law_any (mCons (mVar 0) (mCons (mLst (mCons (mC (.str [97, 116, 109, 111, 115, 116])) (mCons (mC (.str [98, 101, 108, 111, 119])) (mCons (mC (.str [98, 101, 108, 111, 119])) (mCons (mC (.str [115, 97, 109, 101])) mNil))))) mNil))) (mCons (mVar 2) (mCons (mCallI F__law_some_value (mCons (mVar 0) (mCons (mVar 1) mNil))) mNil)))))))
def F__law_some_compared : IF := runI N__law_some_compared.length m__law_some_compared
def N__law_some_condition : List Str := ["_law_bag", "_law_pool", "_law_deep", "_law_way", "_law_word"]
def m__law_some_condition (F : IF) : MS :=
    (msSeq (msAsg (mIf (mTst (mBin dGt (mVar 2) (mC (.int 0)))) (mCallI F__law_pull (mCons (mVar 0) (mCons (mC (.int 7)) mNil))) (mCallI F__law_pull (mCons (mVar 0) (mCons (mC (.int 3)) mNil)))) (mgName 3))
    (msSeq (msIf (mTst (mBin dLt (mVar 3) (mC (.int 1)))) (msRet (mTup (mCons (mC (.str [116, 114, 117, 101])) mNil))) msNil)
    (msSeq (msIf (mTst (mBin dLt (mVar 3) (mC (.int 4)))) (msRet (mCallI F__law_some_compared (mCons (mVar 0) (mCons (mVar 1) mNil)))) msNil)
    (msSeq (msIf (mTst (mBin dEq (mVar 3) (mC (.int 4)))) (msRet (mTup (mCons (mC (.str [110, 111, 116])) (mCons (mCallI F (mCons (mVar 0) (mCons (mVar 1) (mCons (mBin dSub (mVar 2) (mC (.int 1))) mNil)))) mNil)))) msNil)
    (msSeq (msAsg (mIf (mTst (mBin dEq (mVar 3) (mC (.int 5)))) (mC (.str [97, 110, 100])) (mC (.str [111, 114]))) (mgName 4))
    (msRet (mTup (mCons (mVar 4) (mCons (mCallI F (mCons (mVar 0) (mCons (mVar 1) (mCons (mBin dSub (mVar 2) (mC (.int 1))) mNil)))) (mCons (mCallI F (mCons (mVar 0) (mCons (mVar 1) (mCons (mBin dSub (mVar 2) (mC (.int 1))) mNil)))) mNil))))))))))
def F__law_some_condition_ : Nat → IF
  | 0 => fun _ _ => none
  | t + 1 => runI N__law_some_condition.length (m__law_some_condition (F__law_some_condition_ t))
def F__law_some_condition : IF := F__law_some_condition_ 8
def N__law_value_text : List Str := ["_law_value", "_law_more"]
def m__law_value_text (F : PF) : MS :=
    (msSeq (msIf (mTst (mBin dEq (mBin dIx (mVar 0) (mC (.int 0))) (mC (.str [112, 108, 117, 115])))) (msSeq (msAsg (mBin dIx (mVar 0) (mC (.int 2))) (mgName 1))
    (msRet (mBin dAdd (mCallP F (mCons (mBin dIx (mVar 0) (mC (.int 1))) mNil)) (mIf (mTst (mBin dLt (mVar 1) (mC (.int 0)))) (mBin dAdd (mC (.str [32, 45, 32])) (mCall dStr (mCons (mBin dSub (mC (.int 0)) (mVar 1)) mNil))) (mBin dAdd (mC (.str [32, 43, 32])) (mCall dStr (mCons (mVar 1) mNil))))))) msNil)
    (msSeq (msIf (mTst (mBin dEq (mBin dIx (mVar 0) (mC (.int 0))) (mC (.str [102, 105, 101, 108, 100])))) (msRet (mBin dAdd (mBin dAdd (mBin dIx (mVar 0) (mC (.int 1))) (mC (.str [46]))) (mBin dIx (mVar 0) (mC (.int 2))))) msNil)
    (msSeq (msIf (mTst (mBin dInA (mBin dIx (mVar 0) (mC (.int 0))) (mTup (mCons (mC (.str [111, 119, 110])) (mCons (mC (.str [110, 101, 120, 116])) mNil))))) (msRet (mBin dAdd (mBin dAdd (mBin dIx (mVar 0) (mC (.int 0))) (mC (.str [46]))) (mBin dIx (mVar 0) (mC (.int 1))))) msNil)
    (msRet (mCall dStr (mCons (mBin dIx (mVar 0) (mC (.int 1))) mNil))))))
def F__law_value_text_ : Nat → PF
  | 0 => fun _ => none
  | t + 1 => runP N__law_value_text.length (m__law_value_text (F__law_value_text_ t))
def F__law_value_text : PF := F__law_value_text_ 3
def N__law_condition_text : List Str := ["_law_c", "_law_word", "_law_sign"]
def m__law_condition_text (F : PF) : MS :=
    (msSeq (msAsg (mBin dIx (mVar 0) (mC (.int 0))) (mgName 1))
    (msSeq (msIf (mTst (mBin dInA (mVar 1) (mTup (mCons (mC (.str [97, 110, 100])) (mCons (mC (.str [111, 114])) mNil))))) (msRet (mBin dAdd (mBin dAdd (mBin dAdd (mBin dAdd (mBin dAdd (mBin dAdd (mC (.str [40])) (mCallP F (mCons (mBin dIx (mVar 0) (mC (.int 1))) mNil))) (mC (.str [32]))) (mVar 1)) (mC (.str [32]))) (mCallP F (mCons (mBin dIx (mVar 0) (mC (.int 2))) mNil))) (mC (.str [41])))) msNil)
    (msSeq (msIf (mTst (mBin dEq (mVar 1) (mC (.str [110, 111, 116])))) (msRet (mBin dAdd (mC (.str [110, 111, 116, 32])) (mCallP F (mCons (mBin dIx (mVar 0) (mC (.int 1))) mNil)))) msNil)
    (msSeq (msIf (mTst (mBin dEq (mVar 1) (mC (.str [102, 111, 117, 110, 100])))) (msRet (mBin dAdd (mC (.str [102, 111, 117, 110, 100, 32])) (mBin dIx (mVar 0) (mC (.int 1))))) msNil)
    (msSeq (msAsg (mDisp [((mC (.str [97, 116, 109, 111, 115, 116])), (mC (.str [32, 60, 61, 32]))), ((mC (.str [98, 101, 108, 111, 119])), (mC (.str [32, 60, 32]))), ((mC (.str [115, 97, 109, 101])), (mC (.str [32, 61, 32])))]) (mgName 2))
    (msRet (mIf (mTst (mBin dEq (mVar 1) (mC (.str [116, 114, 117, 101])))) (mC (.str [116, 114, 117, 101])) (mBin dAdd (mBin dAdd (mCallP F__law_value_text (mCons (mBin dIx (mVar 0) (mC (.int 1))) mNil)) (mBin dDIx (mVar 2) (mVar 1))) (mCallP F__law_value_text (mCons (mBin dIx (mVar 0) (mC (.int 2))) mNil))))))))))
def F__law_condition_text_ : Nat → PF
  | 0 => fun _ => none
  | t + 1 => runP N__law_condition_text.length (m__law_condition_text (F__law_condition_text_ t))
def F__law_condition_text : PF := F__law_condition_text_ 12
def N_ConditionReader_init : List Str := ["self", "text"]
def m_ConditionReader_init : MS :=
    (msSeq (msFld ["ConditionReader"] "source" (mVar 0) (mVar 1))
    (msFld ["ConditionReader"] "spot" (mVar 0) (mC (.int 0))))
def F_ConditionReader_init : IF := runI N_ConditionReader_init.length m_ConditionReader_init
def N_ConditionReader_comes : List Str := ["self", "word"]
def m_ConditionReader_comes : MS :=
    (msSeq (msIf (mNot (mTst (mMtS dStw3 (mFld ["ConditionReader"] "source" (mVar 0)) (mCons (mVar 1) (mCons (mFld ["ConditionReader"] "spot" (mVar 0)) mNil))))) (msRet (mC (.bl false))) msNil)
    (msSeq (msFAug ["ConditionReader"] "spot" (mVar 0) (mCall dLen (mCons (mVar 1) mNil)))
    (msRet (mC (.bl true)))))
def F_ConditionReader_comes : IF := runI N_ConditionReader_comes.length m_ConditionReader_comes
def N_ConditionReader_signs : List Str := ["self", "begin"]
def mt_ConditionReader_signs_0 : M Bool :=
    (mAnd (mTst (mBin dLt (mFld ["ConditionReader"] "spot" (mVar 0)) (mCall dLen (mCons (mFld ["ConditionReader"] "source" (mVar 0)) mNil)))) (mTst (mBin dNinA (mBin dIx (mFld ["ConditionReader"] "source" (mVar 0)) (mFld ["ConditionReader"] "spot" (mVar 0))) (mC (.str [32, 40, 41])))))
def m_ConditionReader_signs : MS :=
    (msSeq (msAsg (mFld ["ConditionReader"] "spot" (mVar 0)) (mgName 1))
    (msSeq (msWh 8192 mt_ConditionReader_signs_0 (msFAug ["ConditionReader"] "spot" (mVar 0) (mC (.int 1))))
    (msRet (mSl (mFld ["ConditionReader"] "source" (mVar 0)) (mSmP (mVar 1)) (mSmP (mFld ["ConditionReader"] "spot" (mVar 0)))))))
def F_ConditionReader_signs : IF := runI N_ConditionReader_signs.length m_ConditionReader_signs
def N_is_integer : List Str := ["value"]
def m_is_integer : MS :=
    (msRet (mAndV (mIsi [.int] (mVar 0)) (mNotV (mIsi [.bool] (mVar 0)))))
def F_is_integer : PF := runP N_is_integer.length m_is_integer
def N_is_constant : List Str := ["value"]
def m_is_constant : MS :=
    (msRet (mAndV (mCallP F_is_integer (mCons (mVar 0) mNil)) (mChain dLe dLe (mBin dSub (mC (.int 0)) (mC g_GREATEST)) (mVar 0) (mC g_GREATEST))))
def F_is_constant : PF := runP N_is_constant.length m_is_constant
def N_is_name : List Str := ["value", "letter"]
def m_is_name : MS :=
    (msSeq (msIf (mOr (mNot (mTst (mIsi [.str] (mVar 0)))) (mOr (mNot (mTst (mChain dLe dLe (mC (.int 1)) (mCall dLen (mCons (mVar 0) mNil)) (mC (.int 6))))) (mTst (mBin dInA (mVar 0) (mC g_RESERVED))))) (msRet (mC (.bl false))) msNil)
    (msRet (mCall dAll (mCons (mLc [1] (miS (mVar 0)) (mgName 1) mYes (mBin dInA (mVar 1) (mC g_LETTERS))) mNil))))
def F_is_name : PF := runP N_is_name.length m_is_name
def N_is_column : List Str := ["value"]
def m_is_column : MS :=
    (msRet (mAndV (mIsi [.str] (mVar 0)) (mOrV (mBin dEq (mVar 0) (mC (.str [107, 101, 121]))) (mCallP F_is_name (mCons (mVar 0) mNil)))))
def F_is_column : PF := runP N_is_column.length m_is_column
def N_is_plain : List Str := ["value"]
def m_is_plain : MS :=
    (msSeq (msIf (mOr (mNot (mTst (mIsi [.tup] (mVar 0)))) (mOr (mTst (mBin dLt (mCall dLen (mCons (mVar 0) mNil)) (mC (.int 2)))) (mNot (mTst (mIsi [.str] (mBin dIx (mVar 0) (mC (.int 0)))))))) (msRet (mC (.bl false))) msNil)
    (msSeq (msIf (mTst (mBin dEq (mBin dIx (mVar 0) (mC (.int 0))) (mC (.str [102, 105, 101, 108, 100])))) (msRet (mAndV (mBin dEq (mCall dLen (mCons (mVar 0) mNil)) (mC (.int 3))) (mAndV (mCallP F_is_name (mCons (mBin dIx (mVar 0) (mC (.int 1))) mNil)) (mCallP F_is_column (mCons (mBin dIx (mVar 0) (mC (.int 2))) mNil))))) msNil)
    (msSeq (msIf (mTst (mBin dNe (mCall dLen (mCons (mVar 0) mNil)) (mC (.int 2)))) (msRet (mC (.bl false))) msNil)
    (msSeq (msIf (mTst (mBin dEq (mBin dIx (mVar 0) (mC (.int 0))) (mC (.str [110, 117, 109, 98, 101, 114])))) (msRet (mCallP F_is_constant (mCons (mBin dIx (mVar 0) (mC (.int 1))) mNil))) msNil)
    (msSeq (msIf (mTst (mBin dEq (mBin dIx (mVar 0) (mC (.int 0))) (mC (.str [110, 97, 109, 101])))) (msRet (mCallP F_is_name (mCons (mBin dIx (mVar 0) (mC (.int 1))) mNil))) msNil)
    (msRet (mAndV (mBin dInA (mBin dIx (mVar 0) (mC (.int 0))) (mTup (mCons (mC (.str [111, 119, 110])) (mCons (mC (.str [110, 101, 120, 116])) mNil)))) (mCallP F_is_column (mCons (mBin dIx (mVar 0) (mC (.int 1))) mNil)))))))))
def F_is_plain : PF := runP N_is_plain.length m_is_plain
def N_integer_in : List Str := ["text", "most", "body", "sign"]
def m_integer_in : MS :=
    (msSeq (msAsg (mMtS dRmp (mVar 0) (mCons (mC (.str [45])) mNil)) (mgName 2))
    (msSeq (msIf (mOr (mNot (mTst (mChain dLe dLe (mC (.int 1)) (mCall dLen (mCons (mVar 2) mNil)) (mVar 1)))) (mOr (mNot (mTst (mCall dAll (mCons (mLc [3] (miS (mVar 2)) (mgName 3) mYes (mBin dInA (mVar 3) (mC g_DIGITS))) mNil)))) (mTst (mBin dNe (mCall dStr (mCons (mCall dInt (mCons (mVar 0) mNil)) mNil)) (mVar 0))))) (msRet (mC .non)) msNil)
    (msRet (mCall dInt (mCons (mVar 0) mNil)))))
def F_integer_in : PF := runP N_integer_in.length m_integer_in
def N_plain_in : List Str := ["word", "left", "dot", "right", "found", "number"]
def m_plain_in : MS :=
    (msSeq (msAsg (mMtS dPart (mVar 0) (mCons (mC (.str [46])) mNil)) (mgTup 3 (mgCons (mgName 1) (mgCons (mgName 2) (mgCons (mgName 3) mgNil)))))
    (msSeq (msIf (mTst (mBin dNe (mVar 2) (mC (.str [])))) (msAsg (mIf (mTst (mBin dInA (mVar 1) (mTup (mCons (mC (.str [111, 119, 110])) (mCons (mC (.str [110, 101, 120, 116])) mNil))))) (mTup (mCons (mVar 1) (mCons (mVar 3) mNil))) (mTup (mCons (mC (.str [102, 105, 101, 108, 100])) (mCons (mVar 1) (mCons (mVar 3) mNil))))) (mgName 4)) (msIf (mAnd (mTst (mBin dNe (mVar 0) (mC (.str [])))) (mTst (mBin dInA (mBin dIx (mVar 0) (mC (.int 0))) (mBin dAdd (mC (.str [45])) (mC g_DIGITS))))) (msSeq (msAsg (mCallP (fun ds => F_integer_in (ds ++ [(.int 31)])) (mCons (mVar 0) mNil)) (mgName 5))
    (msAsg (mTup (mCons (mC (.str [110, 117, 109, 98, 101, 114])) (mCons (mVar 5) mNil))) (mgName 4))) (msAsg (mTup (mCons (mC (.str [110, 97, 109, 101])) (mCons (mVar 0) mNil))) (mgName 4))))
    (msRet (mIf (mTst (mCallP F_is_plain (mCons (mVar 4) mNil))) (mVar 4) (mC .non)))))
def F_plain_in : PF := runP N_plain_in.length m_plain_in
def N_is_value : List Str := ["value"]
def m_is_value : MS :=
    (msSeq (msIf (mAnd (mTst (mIsi [.tup] (mVar 0))) (mAnd (mTst (mBin dEq (mCall dLen (mCons (mVar 0) mNil)) (mC (.int 3)))) (mAnd (mTst (mIsi [.str] (mBin dIx (mVar 0) (mC (.int 0))))) (mTst (mBin dEq (mBin dIx (mVar 0) (mC (.int 0))) (mC (.str [112, 108, 117, 115]))))))) (msRet (mAndV (mCallP F_is_plain (mCons (mBin dIx (mVar 0) (mC (.int 1))) mNil)) (mCallP F_is_constant (mCons (mBin dIx (mVar 0) (mC (.int 2))) mNil)))) msNil)
    (msRet (mCallP F_is_plain (mCons (mVar 0) mNil))))
def F_is_value : PF := runP N_is_value.length m_is_value
def N_integer_text : List Str := ["sign", "number"]
def m_integer_text : MS :=
    (msRet (mIf (mTst (mBin dLt (mVar 1) (mC (.int 0)))) (jsL [(mC (.str [32, 45, 32])), (mFmt (mBin dSub (mC (.int 0)) (mVar 1)))] []) (jsL [(mC (.str [32])), (mFmt (mVar 0)), (mC (.str [32])), (mFmt (mVar 1))] [])))
def F_integer_text : PF := runP N_integer_text.length m_integer_text
def N_value_text : List Str := ["value"]
def m_value_text (F : PF) : MS :=
    (msSeq (msIf (mNot (mTst (mCallP F_is_value (mCons (mVar 0) mNil)))) msNo msNil)
    (msSeq (msIf (mTst (mBin dEq (mBin dIx (mVar 0) (mC (.int 0))) (mC (.str [112, 108, 117, 115])))) (msRet (mBin dAdd (mCallP F (mCons (mBin dIx (mVar 0) (mC (.int 1))) mNil)) (mCallP F_integer_text (mCons (mC (.str [43])) (mCons (mBin dIx (mVar 0) (mC (.int 2))) mNil))))) msNil)
    (msSeq (msIf (mTst (mBin dEq (mBin dIx (mVar 0) (mC (.int 0))) (mC (.str [102, 105, 101, 108, 100])))) (msRet (jsL [(mFmt (mBin dIx (mVar 0) (mC (.int 1)))), (mC (.str [46])), (mFmt (mBin dIx (mVar 0) (mC (.int 2))))] [])) msNil)
    (msSeq (msIf (mTst (mBin dInA (mBin dIx (mVar 0) (mC (.int 0))) (mTup (mCons (mC (.str [111, 119, 110])) (mCons (mC (.str [110, 101, 120, 116])) mNil))))) (msRet (jsL [(mFmt (mBin dIx (mVar 0) (mC (.int 0)))), (mC (.str [46])), (mFmt (mBin dIx (mVar 0) (mC (.int 1))))] [])) msNil)
    (msRet (mCall dStr (mCons (mBin dIx (mVar 0) (mC (.int 1))) mNil)))))))
def F_value_text_ : Nat → PF
  | 0 => fun _ => none
  | t + 1 => runP N_value_text.length (m_value_text (F_value_text_ t))
def F_value_text : PF := F_value_text_ 3
def N_read_value : List Str := ["text", "words", "found", "number"]
def m_read_value : MS :=
    (msSeq (msAsg (mIf (mTst (mIsi [.str] (mVar 0))) (mMtS dSplit (mVar 0) (mCons (mC (.str [32])) mNil)) (mLst mNil)) (mgName 1))
    (msSeq (msAsg (mIf (mTst (mBin dInA (mCall dLen (mCons (mVar 1) mNil)) (mTup (mCons (mC (.int 1)) (mCons (mC (.int 3)) mNil))))) (mCallP F_plain_in (mCons (mBin dIx (mVar 1) (mC (.int 0))) mNil)) (mC .non)) (mgName 2))
    (msSeq (msIf (mAnd (mTst (mBin (dIsN true) (mVar 2) (mC .non))) (mTst (mBin dEq (mCall dLen (mCons (mVar 1) mNil)) (mC (.int 3))))) (msSeq (msAsg (mCallP (fun ds => F_integer_in (ds ++ [(.int 31)])) (mCons (mBin dIx (mVar 1) (mC (.int 2))) mNil)) (mgName 3))
    (msAsg (mIf (mTst (mBin (dIsN false) (mVar 3) (mC .non))) (mC .non) (mTup (mCons (mC (.str [112, 108, 117, 115])) (mCons (mVar 2) (mCons (mIf (mTst (mBin dEq (mBin dIx (mVar 1) (mC (.int 1))) (mC (.str [45])))) (mBin dSub (mC (.int 0)) (mVar 3)) (mVar 3)) mNil))))) (mgName 2))) msNil)
    (msSeq (msIf (mOr (mTst (mBin (dIsN false) (mVar 2) (mC .non))) (mOr (mNot (mTst (mCallP F_is_value (mCons (mVar 2) mNil)))) (mTst (mBin dNe (mCallP F_value_text (mCons (mVar 2) mNil)) (mVar 0))))) msNo msNil)
    (msRet (mVar 2))))))
def F_read_value : PF := runP N_read_value.length m_read_value
def N_ConditionReader_value : List Str := ["self", "text", "sign"]
def mb_ConditionReader_value_0 : MS :=
    (msIf (mTst (mMeI "ConditionReader" "comes" F_ConditionReader_comes (mVar 0) (mCons (mVar 2) mNil))) (msAsg (mBin dAdd (mBin dAdd (mVar 1) (mVar 2)) (mMeI "ConditionReader" "signs" F_ConditionReader_signs (mVar 0) mNil)) (mgName 1)) msNil)
def m_ConditionReader_value : MS :=
    (msSeq (msAsg (mMeI "ConditionReader" "signs" F_ConditionReader_signs (mVar 0) mNil) (mgName 1))
    (msSeq (msFor (miT (mTup (mCons (mC (.str [32, 43, 32])) (mCons (mC (.str [32, 45, 32])) mNil)))) (mgName 2) mb_ConditionReader_value_0)
    (msRet (mCallP F_read_value (mCons (mVar 1) mNil)))))
def F_ConditionReader_value : IF := runI N_ConditionReader_value.length m_ConditionReader_value
def N_ConditionReader_comparison : List Str := ["self", "one", "word", "sign"]
def mb_ConditionReader_comparison_0 : MS :=
    (msIf (mTst (mMeI "ConditionReader" "comes" F_ConditionReader_comes (mVar 0) (mCons (jsL [(mC (.str [32])), (mFmt (mVar 3)), (mC (.str [32]))] []) mNil))) (msRet (mTup (mCons (mVar 2) (mCons (mVar 1) (mCons (mMeI "ConditionReader" "value" F_ConditionReader_value (mVar 0) mNil) mNil))))) msNil)
def m_ConditionReader_comparison : MS :=
    (msSeq (msAsg (mMeI "ConditionReader" "value" F_ConditionReader_value (mVar 0) mNil) (mgName 1))
    (msSeq (msFor (miL (mC (dItems kv_SIGNS))) (mgTup 2 (mgCons (mgName 2) (mgCons (mgName 3) mgNil))) mb_ConditionReader_comparison_0)
    msNo))
def F_ConditionReader_comparison : IF := runI N_ConditionReader_comparison.length m_ConditionReader_comparison
def N_ConditionReader_joined : List Str := ["self", "depth", "one", "word", "other"]
def mb_ConditionReader_joined_0 (F : IF) : MS :=
    (msIf (mTst (mMeI "ConditionReader" "comes" F_ConditionReader_comes (mVar 0) (mCons (jsL [(mC (.str [32])), (mFmt (mVar 3)), (mC (.str [32]))] []) mNil))) (msSeq (msAsg (mMeI "ConditionReader" "condition" F (mVar 0) (mCons (mBin dAdd (mVar 1) (mC (.int 1))) mNil)) (mgName 4))
    (msIf (mTst (mMeI "ConditionReader" "comes" F_ConditionReader_comes (mVar 0) (mCons (mC (.str [41])) mNil))) (msRet (mTup (mCons (mVar 3) (mCons (mVar 2) (mCons (mVar 4) mNil))))) msNil)) msNil)
def m_ConditionReader_joined (F : IF) : MS :=
    (msSeq (msAsg (mMeI "ConditionReader" "condition" F (mVar 0) (mCons (mBin dAdd (mVar 1) (mC (.int 1))) mNil)) (mgName 2))
    (msSeq (msFor (miT (mC g_JOINTS)) (mgName 3) (mb_ConditionReader_joined_0 F))
    msNo))
def FX_ConditionReader_joined (F : IF) : IF := runI N_ConditionReader_joined.length (m_ConditionReader_joined F)
def N_ConditionReader_condition : List Str := ["self", "depth", "begin"]
def m_ConditionReader_condition (F : IF) : MS :=
    (msSeq (msIf (mTst (mBin dGt (mVar 1) (mC g_MOST_DEPTH))) msNo msNil)
    (msSeq (msIf (mTst (mMeI "ConditionReader" "comes" F_ConditionReader_comes (mVar 0) (mCons (mC (.str [40])) mNil))) (msRet (mMeI "ConditionReader" "joined" (FX_ConditionReader_joined F) (mVar 0) (mCons (mVar 1) mNil))) msNil)
    (msSeq (msIf (mTst (mMeI "ConditionReader" "comes" F_ConditionReader_comes (mVar 0) (mCons (mC (.str [110, 111, 116, 32])) mNil))) (msRet (mTup (mCons (mC (.str [110, 111, 116])) (mCons (mMeI "ConditionReader" "condition" F (mVar 0) (mCons (mBin dAdd (mVar 1) (mC (.int 1))) mNil)) mNil)))) msNil)
    (msSeq (msIf (mTst (mMeI "ConditionReader" "comes" F_ConditionReader_comes (mVar 0) (mCons (mC (.str [102, 111, 117, 110, 100, 32])) mNil))) (msRet (mTup (mCons (mC (.str [102, 111, 117, 110, 100])) (mCons (mMeI "ConditionReader" "signs" F_ConditionReader_signs (mVar 0) mNil) mNil)))) msNil)
    (msSeq (msAsg (mFld ["ConditionReader"] "spot" (mVar 0)) (mgName 2))
    (msSeq (msIf (mTst (mBin dEq (mMeI "ConditionReader" "signs" F_ConditionReader_signs (mVar 0) mNil) (mC (.str [116, 114, 117, 101])))) (msRet (mTup (mCons (mC (.str [116, 114, 117, 101])) mNil))) msNil)
    (msSeq (msFld ["ConditionReader"] "spot" (mVar 0) (mVar 2))
    (msRet (mMeI "ConditionReader" "comparison" F_ConditionReader_comparison (mVar 0) mNil)))))))))
def F_ConditionReader_condition_ : Nat → IF
  | 0 => fun _ _ => none
  | t + 1 => runI N_ConditionReader_condition.length (m_ConditionReader_condition (F_ConditionReader_condition_ t))
def F_ConditionReader_condition : IF := F_ConditionReader_condition_ 12
def N_inner_parts : List Str := ["condition", "at"]
def me_inner_parts_0 : M D :=
    (mTup (mCons (mVar 1) (mCons (mBin dIx (mVar 0) (mVar 1)) mNil)))
def m_inner_parts : MS :=
    (msSeq (msIf (mTst (mBin dNinA (mBin dIx (mVar 0) (mC (.int 0))) (mTup (mCons (mC (.str [110, 111, 116])) (mCons (mC (.str [97, 110, 100])) (mCons (mC (.str [111, 114])) mNil)))))) (msRet (mLst mNil)) msNil)
    (msRet (mLc [1] (miR2 (mCons (mC (.int 1)) (mCons (mCall dLen (mCons (mVar 0) mNil)) mNil))) (mgName 1) mYes me_inner_parts_0)))
def F_inner_parts : PF := runP N_inner_parts.length m_inner_parts
def N_has_form : List Str := ["condition", "word"]
def m_has_form : MS :=
    (msSeq (msIf (mOr (mNot (mTst (mIsi [.tup] (mVar 0)))) (mOr (mTst (mBin dEq (mCall dLen (mCons (mVar 0) mNil)) (mC (.int 0)))) (mNot (mTst (mIsi [.str] (mBin dIx (mVar 0) (mC (.int 0)))))))) (msRet (mC (.bl false))) msNil)
    (msSeq (msAsg (mBin dIx (mVar 0) (mC (.int 0))) (mgName 1))
    (msSeq (msIf (mTst (mC1 (dCIn false kv_SIGNS) (mVar 1))) (msRet (mAndV (mBin dEq (mCall dLen (mCons (mVar 0) mNil)) (mC (.int 3))) (mAndV (mCallP F_is_value (mCons (mBin dIx (mVar 0) (mC (.int 1))) mNil)) (mCallP F_is_value (mCons (mBin dIx (mVar 0) (mC (.int 2))) mNil))))) msNil)
    (msSeq (msIf (mTst (mBin dEq (mVar 1) (mC (.str [102, 111, 117, 110, 100])))) (msRet (mAndV (mBin dEq (mCall dLen (mCons (mVar 0) mNil)) (mC (.int 2))) (mCallP F_is_name (mCons (mBin dIx (mVar 0) (mC (.int 1))) mNil)))) msNil)
    (msRet (mBin dEq (mCall dLen (mCons (mVar 0) mNil)) (mDGet2 (mDisp [((mC (.str [116, 114, 117, 101])), (mC (.int 1))), ((mC (.str [110, 111, 116])), (mC (.int 2))), ((mC (.str [97, 110, 100])), (mC (.int 3))), ((mC (.str [111, 114])), (mC (.int 3)))]) (mVar 1) (mC (.int 0)))))))))
def F_has_form : PF := runP N_has_form.length m_has_form
def N_wrong_path : List Str := ["condition", "path", "at", "inner", "found"]
def mb_wrong_path_0 (F : PF) : MS :=
    (msSeq (msAsg (mCallP F (mCons (mVar 3) (mCons (mTup (mStar (mVar 1) (mCons (mVar 2) mNil))) mNil))) (mgName 4))
    (msIf (mTst (mBin (dIsN true) (mVar 4) (mC .non))) (msRet (mVar 4)) msNil))
def m_wrong_path (F : PF) : MS :=
    (msSeq (msIf (mOr (mTst (mBin dGe (mCall dLen (mCons (mVar 1) mNil)) (mC g_MOST_DEPTH))) (mNot (mTst (mCallP F_has_form (mCons (mVar 0) mNil))))) (msRet (mVar 1)) msNil)
    (msSeq (msFor (miL (mCallP F_inner_parts (mCons (mVar 0) mNil))) (mgTup 2 (mgCons (mgName 2) (mgCons (mgName 3) mgNil))) (mb_wrong_path_0 F))
    (msRet (mC .non))))
def F_wrong_path_ : Nat → PF
  | 0 => fun _ => none
  | t + 1 => runP N_wrong_path.length (m_wrong_path (F_wrong_path_ t))
def F_wrong_path : PF := F_wrong_path_ 12
def N_is_condition : List Str := ["value"]
def m_is_condition : MS :=
    (msRet (mBin (dIsN false) (mCallP F_wrong_path (mCons (mVar 0) (mCons (mTup mNil) mNil))) (mC .non)))
def F_is_condition : PF := runP N_is_condition.length m_is_condition
def N_text_of : List Str := ["condition", "word"]
def m_text_of (F : PF) : MS :=
    (msSeq (msAsg (mBin dIx (mVar 0) (mC (.int 0))) (mgName 1))
    (msSeq (msIf (mTst (mC1 (dCIn false kv_SIGNS) (mVar 1))) (msRet (jsL [(mFmt (mCallP F_value_text (mCons (mBin dIx (mVar 0) (mC (.int 1))) mNil))), (mC (.str [32])), (mFmt (mC1 (dCIx kv_SIGNS) (mVar 1))), (mC (.str [32])), (mFmt (mCallP F_value_text (mCons (mBin dIx (mVar 0) (mC (.int 2))) mNil)))] [])) msNil)
    (msSeq (msIf (mTst (mBin dEq (mVar 1) (mC (.str [102, 111, 117, 110, 100])))) (msRet (jsL [(mC (.str [102, 111, 117, 110, 100, 32])), (mFmt (mBin dIx (mVar 0) (mC (.int 1))))] [])) msNil)
    (msSeq (msIf (mTst (mBin dEq (mVar 1) (mC (.str [110, 111, 116])))) (msRet (jsL [(mC (.str [110, 111, 116, 32])), (mFmt (mCallP F (mCons (mBin dIx (mVar 0) (mC (.int 1))) mNil)))] [])) msNil)
    (msRet (mIf (mTst (mBin dEq (mVar 1) (mC (.str [116, 114, 117, 101])))) (mC (.str [116, 114, 117, 101])) (jsL [(mC (.str [40])), (mFmt (mCallP F (mCons (mBin dIx (mVar 0) (mC (.int 1))) mNil))), (mC (.str [32])), (mFmt (mVar 1)), (mC (.str [32])), (mFmt (mCallP F (mCons (mBin dIx (mVar 0) (mC (.int 2))) mNil))), (mC (.str [41]))] [])))))))
def F_text_of_ : Nat → PF
  | 0 => fun _ => none
  | t + 1 => runP N_text_of.length (m_text_of (F_text_of_ t))
def F_text_of : PF := F_text_of_ 12
def N_read_condition : List Str := ["text", "reader", "found"]
def m_read_condition : MS :=
    (msSeq (msIf (mNot (mTst (mIsi [.str] (mVar 0)))) msNo msNil)
    (msSeq (msAsg (mMk "ConditionReader" [] F_ConditionReader_init (mCons (mVar 0) mNil)) (mgName 1))
    (msSeq (msAsg (mMeI "ConditionReader" "condition" F_ConditionReader_condition (mVar 1) (mCons (mC (.int 1)) mNil)) (mgName 2))
    (msSeq (msIf (mOr (mTst (mBin dLt (mFld ["ConditionReader"] "spot" (mVar 1)) (mCall dLen (mCons (mVar 0) mNil)))) (mOr (mNot (mTst (mCallP F_is_condition (mCons (mVar 2) mNil)))) (mTst (mBin dNe (mCallP F_text_of (mCons (mVar 2) mNil)) (mVar 0))))) msNo msNil)
    (msRet (mVar 2))))))
def F_read_condition : IF := runI N_read_condition.length m_read_condition
def N_check_condition : List Str := ["condition", "path"]
def m_check_condition : MS :=
    (msSeq (msAsg (mCallP F_wrong_path (mCons (mVar 0) (mCons (mTup mNil) mNil))) (mgName 1))
    (msIf (mTst (mBin (dIsN true) (mVar 1) (mC .non))) msNo msNil))
def F_check_condition : PF := runP N_check_condition.length m_check_condition
def N_condition_text : List Str := ["condition"]
def m_condition_text : MS :=
    (msSeq (msExpr (mCallP F_check_condition (mCons (mVar 0) mNil)))
    (msRet (mCallP F_text_of (mCons (mVar 0) mNil))))
def F_condition_text : PF := runP N_condition_text.length m_condition_text
def N__law_far : List Str := ["_law_bag", "_law_near_here"]
def m__law_far : MS :=
    (msSeq (msAsg (mCallI F__law_pull (mCons (mVar 0) (mCons (mBin dPow (mC (.int 10)) (mC (.int 9))) mNil))) (mgName 1))
    (msRet (mCallI F__law_any (mCons (mVar 0) (mCons (mLst (mCons (mC (.int 0)) (mCons (mC (.int 1)) (mCons (mBin dSub (mC (.int 0)) (mC (.int 1))) (mCons (mC (.int 2)) (mCons (mBin dSub (mC (.int 5)) (mCallI F__law_pull (mCons (mVar 0) (mCons (mC (.int 11)) mNil)))) (mCons (mBin dSub (mVar 1) (mBin dPow (mC (.int 10)) (mC (.int 8)))) (mCons (mBin dSub (mBin dPow (mC (.int 10)) (mC (.int 30))) (mVar 1)) (mCons (mBin dSub (mVar 1) (mBin dPow (mC (.int 10)) (mC (.int 30)))) mNil))))))))) mNil)))))
def F__law_far : IF := runI N__law_far.length m__law_far
end PV

namespace PV
open PySem PD
theorem e_pull : F__law_pull = F_pull := rfl
theorem e_any : F__law_any = F_any := rfl
theorem e_draws : F__law_draws = F_draws := rfl
theorem e_new : F__law_new_names = F_new := rfl
theorem e_like : ∀ t, F__law_like_ t = F_like_ t
  | 0 => rfl
  | t + 1 => by
    unfold F__law_like_ F_like_
    rw [e_like t]; rfl
theorem e_isv : F_is_value = F_isValue := rfl
theorem e_isn : F_is_name = F_isName := rfl
/-! ### texts -/
theorem sub_abs {m : Int} (h : isCon m = true) (q : m < 0) : (0 - m).natAbs < 10 ^ 31 := by
  have := isCon_abs h
  omega
theorem js_ok (z : List Nat) {h : EH} {ε : Ev} : jsL [] z ε h = some (.ok (.str z), h) := rfl
def jsK (ms : List (M D)) (acc : List Nat) (ε : Ev) (d : D) (h1 : EH) : O D := match d with
  | .str z => if (acc ++ z).length ≤ 16777216 then jsL ms (acc ++ z) ε h1 else none
  | _ => none
theorem js_ap (m : M D) (ms : List (M D)) (acc : List Nat) {h : EH} {ε : Ev} : jsL (m :: ms) acc ε h = bR (m ε h) (jsK ms acc ε) := (rfl)
theorem jsK_str {ms : List (M D)} {acc z : List Nat} {h : EH} {ε : Ev} (e : (acc ++ z).length ≤ 16777216) : jsK ms acc ε (.str z) h = jsL ms (acc ++ z) ε h := if_pos e
def fmtK (d : D) (h : EH) : O D := rt (fmt1 d) h
theorem fmt_ap (m : M D) {h : EH} {ε : Ev} : mFmt m ε h = bR (m ε h) fmtK := (rfl)
theorem fmtK_ap (d : D) {h : EH} : fmtK d h = rt (fmt1 d) h := (rfl)
theorem itext {m : Int} (h : isCon m = true) : F_integer_text [.str [43], .int m] = some (.ok (.str (pTail m))) := by
  show endP (m_integer_text [some (.str [43]), some (.int m)] []) = _
  have hm := isCon_abs h
  by_cases q : m < 0
  · have l := decI_len (sub_abs h q)
    simp only [m_integer_text, ↓seq_ap, ↓var_ap, ↓c_ap, ↓bin_ap, ↓tst_ap, ↓not_ap, ↓and_ap, ↓or_ap, ↓if_ap, ↓andv_ap, ↓orv_ap, ↓notv_ap, ↓nil_ap, ↓cons_ap, ↓tup_ap, ↓lst_ap, ↓call_ap, ↓callP_ap, ↓callI_ap, ↓perm_ap, ↓nop_ap, ↓smp_ap, ↓sl_ap, ↓chain_ap, ↓isi_ap, ↓lc_ap, ↓lstC_ap, ↓mts_ap, ↓yes_ap, ↓il_ap, ↓it_ap, ↓is_ap, ↓ir1_ap, ↓iz_ap, ↓snil_ap, ↓ret_ap, ↓sif_ap, ↓sexpr_ap, ↓bk_ap, ↓ct_ap, ↓asg_ap, ↓for_ap, ↓par_ap, ↓gname_ap, ↓gnil_ap, ↓gcons_ap, ↓gtup_ap, ↓gsub_ap, bR_ok, bR_ex, rt_some, sq_nx, sq_rt, sq_bk, sq_ct, sq_ex, bS_ok, bS_ex, binK1_ap, binK2_ap, tstK_b, notK_ap, andK_t, andK_f, orK_t, orK_f, ifK_t, ifK_f, andV_t, andV_f, orV_t, orV_f, notV_c, consK1_ap, consK2_ap, tupK_ok, lstK_ok, callK_ap, permK_ap, smP_int, slK1_ap, slK2_ap, slK3_ap, sl_lst, sl_scr, sl_tup, chK1_ap, chK2_ap, chK3_t, chK3_f, chK4_ap, isiK_int, isiK_str, isiK_bl, isiK_non, isiK_tup, isiK_lst, mtsK_str, mtsK2_ap, ilK_lst, ilK_scr, itK_tup, isK_str, izK_l, izK_t, retK_ap, sifK_t, sifK_f, sexprK_ap, asgK_ap, bG_ok, forK_ap, parK_ok, gK_ok, subK1_ok, subK2_ok, add_int, sub_int, mod_int, lt_int, le_int, gt_int, ge_int, eq_int, eq_str, eq_bl, eq_is, eq_si, eq_bs, eq_sb, eq_nn, ne_int, ne_str, ne_bl, isn_ap, isN_int, isN_str, isN_bl, isN_tup, isN_lst, isN_non, ix_lst, ix_tup, ix_scr, len_lst, len_tup, int_int, list_lst, list_tup, tuple_lst, tuple_tup, asB_bl, getD0, getDS, set0, setS, at0, atS, map_some', bind_some', List.length_cons, List.length_nil, List.any_cons, List.any_nil, decide_true, decide_false, and_self, Nat.reduceLeDiff, Nat.reduceAdd, if_true, Int.reduceLT, Int.reduceNeg, Int.reducePow, Int.reduceToNat, Int.reduceLE, Nat.reduceLT, Int.reduceAdd, Int.reduceSub, Bool.not_true, Bool.not_false, Int.reduceEq, bne_self_eq_false, Bool.false_bne, Bool.true_bne, Int.reduceBNe, q, js_ap, js_ok, fmt_ap, fmtK_ap, fmt_int (sub_abs h q), jsK_str (acc := []) (z := [32, 45, 32]) (by decide), List.nil_append,
      jsK_str (acc := [32, 45, 32]) (z := decI (0 - m)) (by simp only [List.length_append, List.length_cons, List.length_nil]; omega)]
    rw [endP_ok rfl, pTail, if_pos q]
  · have l := decI_len hm
    simp only [m_integer_text, ↓seq_ap, ↓var_ap, ↓c_ap, ↓bin_ap, ↓tst_ap, ↓not_ap, ↓and_ap, ↓or_ap, ↓if_ap, ↓andv_ap, ↓orv_ap, ↓notv_ap, ↓nil_ap, ↓cons_ap, ↓tup_ap, ↓lst_ap, ↓call_ap, ↓callP_ap, ↓callI_ap, ↓perm_ap, ↓nop_ap, ↓smp_ap, ↓sl_ap, ↓chain_ap, ↓isi_ap, ↓lc_ap, ↓lstC_ap, ↓mts_ap, ↓yes_ap, ↓il_ap, ↓it_ap, ↓is_ap, ↓ir1_ap, ↓iz_ap, ↓snil_ap, ↓ret_ap, ↓sif_ap, ↓sexpr_ap, ↓bk_ap, ↓ct_ap, ↓asg_ap, ↓for_ap, ↓par_ap, ↓gname_ap, ↓gnil_ap, ↓gcons_ap, ↓gtup_ap, ↓gsub_ap, bR_ok, bR_ex, rt_some, sq_nx, sq_rt, sq_bk, sq_ct, sq_ex, bS_ok, bS_ex, binK1_ap, binK2_ap, tstK_b, notK_ap, andK_t, andK_f, orK_t, orK_f, ifK_t, ifK_f, andV_t, andV_f, orV_t, orV_f, notV_c, consK1_ap, consK2_ap, tupK_ok, lstK_ok, callK_ap, permK_ap, smP_int, slK1_ap, slK2_ap, slK3_ap, sl_lst, sl_scr, sl_tup, chK1_ap, chK2_ap, chK3_t, chK3_f, chK4_ap, isiK_int, isiK_str, isiK_bl, isiK_non, isiK_tup, isiK_lst, mtsK_str, mtsK2_ap, ilK_lst, ilK_scr, itK_tup, isK_str, izK_l, izK_t, retK_ap, sifK_t, sifK_f, sexprK_ap, asgK_ap, bG_ok, forK_ap, parK_ok, gK_ok, subK1_ok, subK2_ok, add_int, sub_int, mod_int, lt_int, le_int, gt_int, ge_int, eq_int, eq_str, eq_bl, eq_is, eq_si, eq_bs, eq_sb, eq_nn, ne_int, ne_str, ne_bl, isn_ap, isN_int, isN_str, isN_bl, isN_tup, isN_lst, isN_non, ix_lst, ix_tup, ix_scr, len_lst, len_tup, int_int, list_lst, list_tup, tuple_lst, tuple_tup, asB_bl, getD0, getDS, set0, setS, at0, atS, map_some', bind_some', List.length_cons, List.length_nil, List.any_cons, List.any_nil, decide_true, decide_false, and_self, Nat.reduceLeDiff, Nat.reduceAdd, if_true, Int.reduceLT, Int.reduceNeg, Int.reducePow, Int.reduceToNat, Int.reduceLE, Nat.reduceLT, Int.reduceAdd, Int.reduceSub, Bool.not_true, Bool.not_false, Int.reduceEq, bne_self_eq_false, Bool.false_bne, Bool.true_bne, Int.reduceBNe, q, js_ap, js_ok, fmt_ap, fmtK_ap, fmt_int hm, fmt_str (z := [43]) (by decide), jsK_str (acc := []) (z := [32]) (by decide), List.nil_append,
      jsK_str (acc := [32]) (z := [43]) (by decide), jsK_str (acc := [32] ++ [43]) (z := [32]) (by decide), jsK_str (acc := [32] ++ [43] ++ [32]) (z := decI m) (by simp; omega)]
    rw [endP_ok rfl, pTail, if_neg q]
    rfl
theorem vtext_p {p : Pl} (h : p.ok = true) (t : Nat) : F_value_text_ (t + 1) [p.d] = some (.ok (.str p.txt)) := by
  have hv := callPK_ok (F := F_is_value) (h := []) (isValue_ok (v := .pl p) h) (go1 p.noRef)
  show endP (m_value_text (F_value_text_ t) [some p.d] []) = _
  have l := ptxt_len h
  cases p with
  | num n =>
    simp only [Vl.d, Pl.d, sNumber] at hv
    simp only [m_value_text, Pl.d, sNumber, ↓seq_ap, ↓var_ap, ↓c_ap, ↓bin_ap, ↓tst_ap, ↓not_ap, ↓and_ap, ↓or_ap, ↓if_ap, ↓andv_ap, ↓orv_ap, ↓notv_ap, ↓nil_ap, ↓cons_ap, ↓tup_ap, ↓lst_ap, ↓call_ap, ↓callP_ap, ↓callI_ap, ↓perm_ap, ↓nop_ap, ↓smp_ap, ↓sl_ap, ↓chain_ap, ↓isi_ap, ↓lc_ap, ↓lstC_ap, ↓mts_ap, ↓yes_ap, ↓il_ap, ↓it_ap, ↓is_ap, ↓ir1_ap, ↓iz_ap, ↓snil_ap, ↓ret_ap, ↓sif_ap, ↓sexpr_ap, ↓bk_ap, ↓ct_ap, ↓asg_ap, ↓for_ap, ↓par_ap, ↓gname_ap, ↓gnil_ap, ↓gcons_ap, ↓gtup_ap, ↓gsub_ap, bR_ok, bR_ex, rt_some, sq_nx, sq_rt, sq_bk, sq_ct, sq_ex, bS_ok, bS_ex, binK1_ap, binK2_ap, tstK_b, notK_ap, andK_t, andK_f, orK_t, orK_f, ifK_t, ifK_f, andV_t, andV_f, orV_t, orV_f, notV_c, consK1_ap, consK2_ap, tupK_ok, lstK_ok, callK_ap, permK_ap, smP_int, slK1_ap, slK2_ap, slK3_ap, sl_lst, sl_scr, sl_tup, chK1_ap, chK2_ap, chK3_t, chK3_f, chK4_ap, isiK_int, isiK_str, isiK_bl, isiK_non, isiK_tup, isiK_lst, mtsK_str, mtsK2_ap, ilK_lst, ilK_scr, itK_tup, isK_str, izK_l, izK_t, retK_ap, sifK_t, sifK_f, sexprK_ap, asgK_ap, bG_ok, forK_ap, parK_ok, gK_ok, subK1_ok, subK2_ok, add_int, sub_int, mod_int, lt_int, le_int, gt_int, ge_int, eq_int, eq_str, eq_bl, eq_is, eq_si, eq_bs, eq_sb, eq_nn, ne_int, ne_str, ne_bl, isn_ap, isN_int, isN_str, isN_bl, isN_tup, isN_lst, isN_non, ix_lst, ix_tup, ix_scr, len_lst, len_tup, int_int, list_lst, list_tup, tuple_lst, tuple_tup, asB_bl, getD0, getDS, set0, setS, at0, atS, map_some', bind_some', List.length_cons, List.length_nil, List.any_cons, List.any_nil, decide_true, decide_false, and_self, Nat.reduceLeDiff, Nat.reduceAdd, if_true, Int.reduceLT, Int.reduceNeg, Int.reducePow, Int.reduceToNat, Int.reduceLE, Nat.reduceLT, Int.reduceAdd, Int.reduceSub, Bool.not_true, Bool.not_false, Int.reduceEq, bne_self_eq_false, Bool.false_bne, Bool.true_bne, Int.reduceBNe, hv, atl0, atl1, atl2, in_on, List.cons.injEq, Nat.reduceEqDiff, false_and, and_false, List.mem_cons, List.not_mem_nil, or_false, str_int (isCon_abs h)]
    rfl
  | name z =>
    simp only [Vl.d, Pl.d, sName] at hv
    simp only [m_value_text, Pl.d, sName, ↓seq_ap, ↓var_ap, ↓c_ap, ↓bin_ap, ↓tst_ap, ↓not_ap, ↓and_ap, ↓or_ap, ↓if_ap, ↓andv_ap, ↓orv_ap, ↓notv_ap, ↓nil_ap, ↓cons_ap, ↓tup_ap, ↓lst_ap, ↓call_ap, ↓callP_ap, ↓callI_ap, ↓perm_ap, ↓nop_ap, ↓smp_ap, ↓sl_ap, ↓chain_ap, ↓isi_ap, ↓lc_ap, ↓lstC_ap, ↓mts_ap, ↓yes_ap, ↓il_ap, ↓it_ap, ↓is_ap, ↓ir1_ap, ↓iz_ap, ↓snil_ap, ↓ret_ap, ↓sif_ap, ↓sexpr_ap, ↓bk_ap, ↓ct_ap, ↓asg_ap, ↓for_ap, ↓par_ap, ↓gname_ap, ↓gnil_ap, ↓gcons_ap, ↓gtup_ap, ↓gsub_ap, bR_ok, bR_ex, rt_some, sq_nx, sq_rt, sq_bk, sq_ct, sq_ex, bS_ok, bS_ex, binK1_ap, binK2_ap, tstK_b, notK_ap, andK_t, andK_f, orK_t, orK_f, ifK_t, ifK_f, andV_t, andV_f, orV_t, orV_f, notV_c, consK1_ap, consK2_ap, tupK_ok, lstK_ok, callK_ap, permK_ap, smP_int, slK1_ap, slK2_ap, slK3_ap, sl_lst, sl_scr, sl_tup, chK1_ap, chK2_ap, chK3_t, chK3_f, chK4_ap, isiK_int, isiK_str, isiK_bl, isiK_non, isiK_tup, isiK_lst, mtsK_str, mtsK2_ap, ilK_lst, ilK_scr, itK_tup, isK_str, izK_l, izK_t, retK_ap, sifK_t, sifK_f, sexprK_ap, asgK_ap, bG_ok, forK_ap, parK_ok, gK_ok, subK1_ok, subK2_ok, add_int, sub_int, mod_int, lt_int, le_int, gt_int, ge_int, eq_int, eq_str, eq_bl, eq_is, eq_si, eq_bs, eq_sb, eq_nn, ne_int, ne_str, ne_bl, isn_ap, isN_int, isN_str, isN_bl, isN_tup, isN_lst, isN_non, ix_lst, ix_tup, ix_scr, len_lst, len_tup, int_int, list_lst, list_tup, tuple_lst, tuple_tup, asB_bl, getD0, getDS, set0, setS, at0, atS, map_some', bind_some', List.length_cons, List.length_nil, List.any_cons, List.any_nil, decide_true, decide_false, and_self, Nat.reduceLeDiff, Nat.reduceAdd, if_true, Int.reduceLT, Int.reduceNeg, Int.reducePow, Int.reduceToNat, Int.reduceLE, Nat.reduceLT, Int.reduceAdd, Int.reduceSub, Bool.not_true, Bool.not_false, Int.reduceEq, bne_self_eq_false, Bool.false_bne, Bool.true_bne, Int.reduceBNe, hv, atl0, atl1, atl2, in_on, List.cons.injEq, Nat.reduceEqDiff, false_and, and_false, List.mem_cons, List.not_mem_nil, or_false, str_str]
    rfl
  | field z y =>
    have l' : (z ++ ([46] ++ y)).length ≤ 40 := l
    rw [List.length_append, List.length_append] at l'
    simp only [Vl.d, Pl.d, sField] at hv
    simp only [m_value_text, Pl.d, sField, ↓seq_ap, ↓var_ap, ↓c_ap, ↓bin_ap, ↓tst_ap, ↓not_ap, ↓and_ap, ↓or_ap, ↓if_ap, ↓andv_ap, ↓orv_ap, ↓notv_ap, ↓nil_ap, ↓cons_ap, ↓tup_ap, ↓lst_ap, ↓call_ap, ↓callP_ap, ↓callI_ap, ↓perm_ap, ↓nop_ap, ↓smp_ap, ↓sl_ap, ↓chain_ap, ↓isi_ap, ↓lc_ap, ↓lstC_ap, ↓mts_ap, ↓yes_ap, ↓il_ap, ↓it_ap, ↓is_ap, ↓ir1_ap, ↓iz_ap, ↓snil_ap, ↓ret_ap, ↓sif_ap, ↓sexpr_ap, ↓bk_ap, ↓ct_ap, ↓asg_ap, ↓for_ap, ↓par_ap, ↓gname_ap, ↓gnil_ap, ↓gcons_ap, ↓gtup_ap, ↓gsub_ap, bR_ok, bR_ex, rt_some, sq_nx, sq_rt, sq_bk, sq_ct, sq_ex, bS_ok, bS_ex, binK1_ap, binK2_ap, tstK_b, notK_ap, andK_t, andK_f, orK_t, orK_f, ifK_t, ifK_f, andV_t, andV_f, orV_t, orV_f, notV_c, consK1_ap, consK2_ap, tupK_ok, lstK_ok, callK_ap, permK_ap, smP_int, slK1_ap, slK2_ap, slK3_ap, sl_lst, sl_scr, sl_tup, chK1_ap, chK2_ap, chK3_t, chK3_f, chK4_ap, isiK_int, isiK_str, isiK_bl, isiK_non, isiK_tup, isiK_lst, mtsK_str, mtsK2_ap, ilK_lst, ilK_scr, itK_tup, isK_str, izK_l, izK_t, retK_ap, sifK_t, sifK_f, sexprK_ap, asgK_ap, bG_ok, forK_ap, parK_ok, gK_ok, subK1_ok, subK2_ok, add_int, sub_int, mod_int, lt_int, le_int, gt_int, ge_int, eq_int, eq_str, eq_bl, eq_is, eq_si, eq_bs, eq_sb, eq_nn, ne_int, ne_str, ne_bl, isn_ap, isN_int, isN_str, isN_bl, isN_tup, isN_lst, isN_non, ix_lst, ix_tup, ix_scr, len_lst, len_tup, int_int, list_lst, list_tup, tuple_lst, tuple_tup, asB_bl, getD0, getDS, set0, setS, at0, atS, map_some', bind_some', List.length_cons, List.length_nil, List.any_cons, List.any_nil, decide_true, decide_false, and_self, Nat.reduceLeDiff, Nat.reduceAdd, if_true, Int.reduceLT, Int.reduceNeg, Int.reducePow, Int.reduceToNat, Int.reduceLE, Nat.reduceLT, Int.reduceAdd, Int.reduceSub, Bool.not_true, Bool.not_false, Int.reduceEq, bne_self_eq_false, Bool.false_bne, Bool.true_bne, Int.reduceBNe, hv, atl0, atl1, atl2, List.cons.injEq, Nat.reduceEqDiff, false_and, and_false, js_ap, js_ok, fmt_ap, fmtK_ap, fmt_str (z := z) (by omega), fmt_str (z := y) (by omega), List.nil_append,
      jsK_str (acc := []) (z := z) (by simp; omega), jsK_str (acc := z) (z := [46]) (by simp; omega), jsK_str (acc := z ++ [46]) (z := y) (by simp; omega)]
    rw [endP_ok rfl, List.append_assoc]
    rfl
  | own y =>
    have l' : (sOwn ++ ([46] ++ y)).length ≤ 40 := l
    rw [List.length_append, List.length_append] at l'
    simp only [Vl.d, Pl.d, sOwn] at hv
    simp only [m_value_text, Pl.d, sOwn, ↓seq_ap, ↓var_ap, ↓c_ap, ↓bin_ap, ↓tst_ap, ↓not_ap, ↓and_ap, ↓or_ap, ↓if_ap, ↓andv_ap, ↓orv_ap, ↓notv_ap, ↓nil_ap, ↓cons_ap, ↓tup_ap, ↓lst_ap, ↓call_ap, ↓callP_ap, ↓callI_ap, ↓perm_ap, ↓nop_ap, ↓smp_ap, ↓sl_ap, ↓chain_ap, ↓isi_ap, ↓lc_ap, ↓lstC_ap, ↓mts_ap, ↓yes_ap, ↓il_ap, ↓it_ap, ↓is_ap, ↓ir1_ap, ↓iz_ap, ↓snil_ap, ↓ret_ap, ↓sif_ap, ↓sexpr_ap, ↓bk_ap, ↓ct_ap, ↓asg_ap, ↓for_ap, ↓par_ap, ↓gname_ap, ↓gnil_ap, ↓gcons_ap, ↓gtup_ap, ↓gsub_ap, bR_ok, bR_ex, rt_some, sq_nx, sq_rt, sq_bk, sq_ct, sq_ex, bS_ok, bS_ex, binK1_ap, binK2_ap, tstK_b, notK_ap, andK_t, andK_f, orK_t, orK_f, ifK_t, ifK_f, andV_t, andV_f, orV_t, orV_f, notV_c, consK1_ap, consK2_ap, tupK_ok, lstK_ok, callK_ap, permK_ap, smP_int, slK1_ap, slK2_ap, slK3_ap, sl_lst, sl_scr, sl_tup, chK1_ap, chK2_ap, chK3_t, chK3_f, chK4_ap, isiK_int, isiK_str, isiK_bl, isiK_non, isiK_tup, isiK_lst, mtsK_str, mtsK2_ap, ilK_lst, ilK_scr, itK_tup, isK_str, izK_l, izK_t, retK_ap, sifK_t, sifK_f, sexprK_ap, asgK_ap, bG_ok, forK_ap, parK_ok, gK_ok, subK1_ok, subK2_ok, add_int, sub_int, mod_int, lt_int, le_int, gt_int, ge_int, eq_int, eq_str, eq_bl, eq_is, eq_si, eq_bs, eq_sb, eq_nn, ne_int, ne_str, ne_bl, isn_ap, isN_int, isN_str, isN_bl, isN_tup, isN_lst, isN_non, ix_lst, ix_tup, ix_scr, len_lst, len_tup, int_int, list_lst, list_tup, tuple_lst, tuple_tup, asB_bl, getD0, getDS, set0, setS, at0, atS, map_some', bind_some', List.length_cons, List.length_nil, List.any_cons, List.any_nil, decide_true, decide_false, and_self, Nat.reduceLeDiff, Nat.reduceAdd, if_true, Int.reduceLT, Int.reduceNeg, Int.reducePow, Int.reduceToNat, Int.reduceLE, Nat.reduceLT, Int.reduceAdd, Int.reduceSub, Bool.not_true, Bool.not_false, Int.reduceEq, bne_self_eq_false, Bool.false_bne, Bool.true_bne, Int.reduceBNe, hv, atl0, atl1, atl2, in_on, List.cons.injEq, Nat.reduceEqDiff, false_and, and_false, List.mem_cons, List.not_mem_nil, or_false, and_true, true_or, or_true, js_ap, js_ok, fmt_ap, fmtK_ap, fmt_str (z := [111, 119, 110]) (by decide), fmt_str (z := y) (by omega), List.nil_append,
      jsK_str (acc := []) (z := [111, 119, 110]) (by decide), jsK_str (acc := [111, 119, 110]) (z := [46]) (by decide), jsK_str (acc := [111, 119, 110] ++ [46]) (z := y) (by simp; omega)]
    rw [endP_ok rfl, List.append_assoc]
    rfl
  | next y =>
    have l' : (sNext ++ ([46] ++ y)).length ≤ 40 := l
    rw [List.length_append, List.length_append] at l'
    simp only [Vl.d, Pl.d, sNext] at hv
    simp only [m_value_text, Pl.d, sNext, ↓seq_ap, ↓var_ap, ↓c_ap, ↓bin_ap, ↓tst_ap, ↓not_ap, ↓and_ap, ↓or_ap, ↓if_ap, ↓andv_ap, ↓orv_ap, ↓notv_ap, ↓nil_ap, ↓cons_ap, ↓tup_ap, ↓lst_ap, ↓call_ap, ↓callP_ap, ↓callI_ap, ↓perm_ap, ↓nop_ap, ↓smp_ap, ↓sl_ap, ↓chain_ap, ↓isi_ap, ↓lc_ap, ↓lstC_ap, ↓mts_ap, ↓yes_ap, ↓il_ap, ↓it_ap, ↓is_ap, ↓ir1_ap, ↓iz_ap, ↓snil_ap, ↓ret_ap, ↓sif_ap, ↓sexpr_ap, ↓bk_ap, ↓ct_ap, ↓asg_ap, ↓for_ap, ↓par_ap, ↓gname_ap, ↓gnil_ap, ↓gcons_ap, ↓gtup_ap, ↓gsub_ap, bR_ok, bR_ex, rt_some, sq_nx, sq_rt, sq_bk, sq_ct, sq_ex, bS_ok, bS_ex, binK1_ap, binK2_ap, tstK_b, notK_ap, andK_t, andK_f, orK_t, orK_f, ifK_t, ifK_f, andV_t, andV_f, orV_t, orV_f, notV_c, consK1_ap, consK2_ap, tupK_ok, lstK_ok, callK_ap, permK_ap, smP_int, slK1_ap, slK2_ap, slK3_ap, sl_lst, sl_scr, sl_tup, chK1_ap, chK2_ap, chK3_t, chK3_f, chK4_ap, isiK_int, isiK_str, isiK_bl, isiK_non, isiK_tup, isiK_lst, mtsK_str, mtsK2_ap, ilK_lst, ilK_scr, itK_tup, isK_str, izK_l, izK_t, retK_ap, sifK_t, sifK_f, sexprK_ap, asgK_ap, bG_ok, forK_ap, parK_ok, gK_ok, subK1_ok, subK2_ok, add_int, sub_int, mod_int, lt_int, le_int, gt_int, ge_int, eq_int, eq_str, eq_bl, eq_is, eq_si, eq_bs, eq_sb, eq_nn, ne_int, ne_str, ne_bl, isn_ap, isN_int, isN_str, isN_bl, isN_tup, isN_lst, isN_non, ix_lst, ix_tup, ix_scr, len_lst, len_tup, int_int, list_lst, list_tup, tuple_lst, tuple_tup, asB_bl, getD0, getDS, set0, setS, at0, atS, map_some', bind_some', List.length_cons, List.length_nil, List.any_cons, List.any_nil, decide_true, decide_false, and_self, Nat.reduceLeDiff, Nat.reduceAdd, if_true, Int.reduceLT, Int.reduceNeg, Int.reducePow, Int.reduceToNat, Int.reduceLE, Nat.reduceLT, Int.reduceAdd, Int.reduceSub, Bool.not_true, Bool.not_false, Int.reduceEq, bne_self_eq_false, Bool.false_bne, Bool.true_bne, Int.reduceBNe, hv, atl0, atl1, atl2, in_on, List.cons.injEq, Nat.reduceEqDiff, false_and, and_false, List.mem_cons, List.not_mem_nil, or_false, and_true, true_or, or_true, js_ap, js_ok, fmt_ap, fmtK_ap, fmt_str (z := [110, 101, 120, 116]) (by decide), fmt_str (z := y) (by omega), List.nil_append,
      jsK_str (acc := []) (z := [110, 101, 120, 116]) (by decide), jsK_str (acc := [110, 101, 120, 116]) (z := [46]) (by decide), jsK_str (acc := [110, 101, 120, 116] ++ [46]) (z := y) (by simp; omega)]
    rw [endP_ok rfl, List.append_assoc]
    rfl
theorem tail_len {m : Int} (h : isCon m = true) : (pTail m).length ≤ 40 := by
  unfold pTail
  by_cases q : m < 0
  · have := (decI_len (sub_abs h q)).2
    rw [if_pos q]; simp only [List.length_append, List.length_cons, List.length_nil]; omega
  · have := (decI_len (isCon_abs h)).2
    rw [if_neg q]; simp; omega
theorem vtext {v : Vl} (h : v.ok = true) : F_value_text [v.d] = some (.ok (.str v.txt)) := by
  cases v with
  | pl p => exact vtext_p h 2
  | plus p m =>
    have h' := Bool.and_eq_true_iff.mp (show (p.ok && isCon m) = true from h)
    have hv := callPK_ok (F := F_is_value) (h := []) (isValue_ok (v := .plus p m) h) (go1 (Vl.plus p m).noRef)
    have a := ptxt_len h'.1
    have b := tail_len h'.2
    show endP (m_value_text (F_value_text_ 2) [some (Vl.plus p m).d] []) = _
    simp only [Vl.d, sPlus] at hv
    simp only [m_value_text, Vl.d, sPlus, ↓seq_ap, ↓var_ap, ↓c_ap, ↓bin_ap, ↓tst_ap, ↓not_ap, ↓and_ap, ↓or_ap, ↓if_ap, ↓andv_ap, ↓orv_ap, ↓notv_ap, ↓nil_ap, ↓cons_ap, ↓tup_ap, ↓lst_ap, ↓call_ap, ↓callP_ap, ↓callI_ap, ↓perm_ap, ↓nop_ap, ↓smp_ap, ↓sl_ap, ↓chain_ap, ↓isi_ap, ↓lc_ap, ↓lstC_ap, ↓mts_ap, ↓yes_ap, ↓il_ap, ↓it_ap, ↓is_ap, ↓ir1_ap, ↓iz_ap, ↓snil_ap, ↓ret_ap, ↓sif_ap, ↓sexpr_ap, ↓bk_ap, ↓ct_ap, ↓asg_ap, ↓for_ap, ↓par_ap, ↓gname_ap, ↓gnil_ap, ↓gcons_ap, ↓gtup_ap, ↓gsub_ap, bR_ok, bR_ex, rt_some, sq_nx, sq_rt, sq_bk, sq_ct, sq_ex, bS_ok, bS_ex, binK1_ap, binK2_ap, tstK_b, notK_ap, andK_t, andK_f, orK_t, orK_f, ifK_t, ifK_f, andV_t, andV_f, orV_t, orV_f, notV_c, consK1_ap, consK2_ap, tupK_ok, lstK_ok, callK_ap, permK_ap, smP_int, slK1_ap, slK2_ap, slK3_ap, sl_lst, sl_scr, sl_tup, chK1_ap, chK2_ap, chK3_t, chK3_f, chK4_ap, isiK_int, isiK_str, isiK_bl, isiK_non, isiK_tup, isiK_lst, mtsK_str, mtsK2_ap, ilK_lst, ilK_scr, itK_tup, isK_str, izK_l, izK_t, retK_ap, sifK_t, sifK_f, sexprK_ap, asgK_ap, bG_ok, forK_ap, parK_ok, gK_ok, subK1_ok, subK2_ok, add_int, sub_int, mod_int, lt_int, le_int, gt_int, ge_int, eq_int, eq_str, eq_bl, eq_is, eq_si, eq_bs, eq_sb, eq_nn, ne_int, ne_str, ne_bl, isn_ap, isN_int, isN_str, isN_bl, isN_tup, isN_lst, isN_non, ix_lst, ix_tup, ix_scr, len_lst, len_tup, int_int, list_lst, list_tup, tuple_lst, tuple_tup, asB_bl, getD0, getDS, set0, setS, at0, atS, map_some', bind_some', List.length_cons, List.length_nil, List.any_cons, List.any_nil, decide_true, decide_false, and_self, Nat.reduceLeDiff, Nat.reduceAdd, if_true, Int.reduceLT, Int.reduceNeg, Int.reducePow, Int.reduceToNat, Int.reduceLE, Nat.reduceLT, Int.reduceAdd, Int.reduceSub, Bool.not_true, Bool.not_false, Int.reduceEq, bne_self_eq_false, Bool.false_bne, Bool.true_bne, Int.reduceBNe, hv, atl0, atl1, atl2, callPK_ok (vtext_p h'.1 1) (go1 p.noRef), callPK_ok (itext h'.2) rfl, add_str (show p.txt.length + (pTail m).length ≤ 16777216 by omega)]
    rfl
theorem ltext_p {p : Pl} (h : p.ok = true) (t : Nat) : F__law_value_text_ (t + 1) [p.d] = some (.ok (.str p.txt)) := by
  show endP (m__law_value_text (F__law_value_text_ t) [some p.d, none] []) = _
  have l := ptxt_len h
  cases p with
  | num n =>
    simp only [m__law_value_text, Pl.d, sNumber, ↓seq_ap, ↓var_ap, ↓c_ap, ↓bin_ap, ↓tst_ap, ↓not_ap, ↓and_ap, ↓or_ap, ↓if_ap, ↓andv_ap, ↓orv_ap, ↓notv_ap, ↓nil_ap, ↓cons_ap, ↓tup_ap, ↓lst_ap, ↓call_ap, ↓callP_ap, ↓callI_ap, ↓perm_ap, ↓nop_ap, ↓smp_ap, ↓sl_ap, ↓chain_ap, ↓isi_ap, ↓lc_ap, ↓lstC_ap, ↓mts_ap, ↓yes_ap, ↓il_ap, ↓it_ap, ↓is_ap, ↓ir1_ap, ↓iz_ap, ↓snil_ap, ↓ret_ap, ↓sif_ap, ↓sexpr_ap, ↓bk_ap, ↓ct_ap, ↓asg_ap, ↓for_ap, ↓par_ap, ↓gname_ap, ↓gnil_ap, ↓gcons_ap, ↓gtup_ap, ↓gsub_ap, bR_ok, bR_ex, rt_some, sq_nx, sq_rt, sq_bk, sq_ct, sq_ex, bS_ok, bS_ex, binK1_ap, binK2_ap, tstK_b, notK_ap, andK_t, andK_f, orK_t, orK_f, ifK_t, ifK_f, andV_t, andV_f, orV_t, orV_f, notV_c, consK1_ap, consK2_ap, tupK_ok, lstK_ok, callK_ap, permK_ap, smP_int, slK1_ap, slK2_ap, slK3_ap, sl_lst, sl_scr, sl_tup, chK1_ap, chK2_ap, chK3_t, chK3_f, chK4_ap, isiK_int, isiK_str, isiK_bl, isiK_non, isiK_tup, isiK_lst, mtsK_str, mtsK2_ap, ilK_lst, ilK_scr, itK_tup, isK_str, izK_l, izK_t, retK_ap, sifK_t, sifK_f, sexprK_ap, asgK_ap, bG_ok, forK_ap, parK_ok, gK_ok, subK1_ok, subK2_ok, add_int, sub_int, mod_int, lt_int, le_int, gt_int, ge_int, eq_int, eq_str, eq_bl, eq_is, eq_si, eq_bs, eq_sb, eq_nn, ne_int, ne_str, ne_bl, isn_ap, isN_int, isN_str, isN_bl, isN_tup, isN_lst, isN_non, ix_lst, ix_tup, ix_scr, len_lst, len_tup, int_int, list_lst, list_tup, tuple_lst, tuple_tup, asB_bl, getD0, getDS, set0, setS, at0, atS, map_some', bind_some', List.length_cons, List.length_nil, List.any_cons, List.any_nil, decide_true, decide_false, and_self, Nat.reduceLeDiff, Nat.reduceAdd, if_true, Int.reduceLT, Int.reduceNeg, Int.reducePow, Int.reduceToNat, Int.reduceLE, Nat.reduceLT, Int.reduceAdd, Int.reduceSub, Bool.not_true, Bool.not_false, Int.reduceEq, bne_self_eq_false, Bool.false_bne, Bool.true_bne, Int.reduceBNe, atl0, atl1, atl2, in_on, List.cons.injEq, Nat.reduceEqDiff, false_and, and_false, List.mem_cons, List.not_mem_nil, or_false, str_int (isCon_abs h)]
    rfl
  | name z =>
    simp only [m__law_value_text, Pl.d, sName, ↓seq_ap, ↓var_ap, ↓c_ap, ↓bin_ap, ↓tst_ap, ↓not_ap, ↓and_ap, ↓or_ap, ↓if_ap, ↓andv_ap, ↓orv_ap, ↓notv_ap, ↓nil_ap, ↓cons_ap, ↓tup_ap, ↓lst_ap, ↓call_ap, ↓callP_ap, ↓callI_ap, ↓perm_ap, ↓nop_ap, ↓smp_ap, ↓sl_ap, ↓chain_ap, ↓isi_ap, ↓lc_ap, ↓lstC_ap, ↓mts_ap, ↓yes_ap, ↓il_ap, ↓it_ap, ↓is_ap, ↓ir1_ap, ↓iz_ap, ↓snil_ap, ↓ret_ap, ↓sif_ap, ↓sexpr_ap, ↓bk_ap, ↓ct_ap, ↓asg_ap, ↓for_ap, ↓par_ap, ↓gname_ap, ↓gnil_ap, ↓gcons_ap, ↓gtup_ap, ↓gsub_ap, bR_ok, bR_ex, rt_some, sq_nx, sq_rt, sq_bk, sq_ct, sq_ex, bS_ok, bS_ex, binK1_ap, binK2_ap, tstK_b, notK_ap, andK_t, andK_f, orK_t, orK_f, ifK_t, ifK_f, andV_t, andV_f, orV_t, orV_f, notV_c, consK1_ap, consK2_ap, tupK_ok, lstK_ok, callK_ap, permK_ap, smP_int, slK1_ap, slK2_ap, slK3_ap, sl_lst, sl_scr, sl_tup, chK1_ap, chK2_ap, chK3_t, chK3_f, chK4_ap, isiK_int, isiK_str, isiK_bl, isiK_non, isiK_tup, isiK_lst, mtsK_str, mtsK2_ap, ilK_lst, ilK_scr, itK_tup, isK_str, izK_l, izK_t, retK_ap, sifK_t, sifK_f, sexprK_ap, asgK_ap, bG_ok, forK_ap, parK_ok, gK_ok, subK1_ok, subK2_ok, add_int, sub_int, mod_int, lt_int, le_int, gt_int, ge_int, eq_int, eq_str, eq_bl, eq_is, eq_si, eq_bs, eq_sb, eq_nn, ne_int, ne_str, ne_bl, isn_ap, isN_int, isN_str, isN_bl, isN_tup, isN_lst, isN_non, ix_lst, ix_tup, ix_scr, len_lst, len_tup, int_int, list_lst, list_tup, tuple_lst, tuple_tup, asB_bl, getD0, getDS, set0, setS, at0, atS, map_some', bind_some', List.length_cons, List.length_nil, List.any_cons, List.any_nil, decide_true, decide_false, and_self, Nat.reduceLeDiff, Nat.reduceAdd, if_true, Int.reduceLT, Int.reduceNeg, Int.reducePow, Int.reduceToNat, Int.reduceLE, Nat.reduceLT, Int.reduceAdd, Int.reduceSub, Bool.not_true, Bool.not_false, Int.reduceEq, bne_self_eq_false, Bool.false_bne, Bool.true_bne, Int.reduceBNe, atl0, atl1, atl2, in_on, List.cons.injEq, Nat.reduceEqDiff, false_and, and_false, List.mem_cons, List.not_mem_nil, or_false, str_str]
    rfl
  | field z y =>
    have l' : (z ++ ([46] ++ y)).length ≤ 40 := l
    rw [List.length_append, List.length_append] at l'
    simp only [m__law_value_text, Pl.d, sField, ↓seq_ap, ↓var_ap, ↓c_ap, ↓bin_ap, ↓tst_ap, ↓not_ap, ↓and_ap, ↓or_ap, ↓if_ap, ↓andv_ap, ↓orv_ap, ↓notv_ap, ↓nil_ap, ↓cons_ap, ↓tup_ap, ↓lst_ap, ↓call_ap, ↓callP_ap, ↓callI_ap, ↓perm_ap, ↓nop_ap, ↓smp_ap, ↓sl_ap, ↓chain_ap, ↓isi_ap, ↓lc_ap, ↓lstC_ap, ↓mts_ap, ↓yes_ap, ↓il_ap, ↓it_ap, ↓is_ap, ↓ir1_ap, ↓iz_ap, ↓snil_ap, ↓ret_ap, ↓sif_ap, ↓sexpr_ap, ↓bk_ap, ↓ct_ap, ↓asg_ap, ↓for_ap, ↓par_ap, ↓gname_ap, ↓gnil_ap, ↓gcons_ap, ↓gtup_ap, ↓gsub_ap, bR_ok, bR_ex, rt_some, sq_nx, sq_rt, sq_bk, sq_ct, sq_ex, bS_ok, bS_ex, binK1_ap, binK2_ap, tstK_b, notK_ap, andK_t, andK_f, orK_t, orK_f, ifK_t, ifK_f, andV_t, andV_f, orV_t, orV_f, notV_c, consK1_ap, consK2_ap, tupK_ok, lstK_ok, callK_ap, permK_ap, smP_int, slK1_ap, slK2_ap, slK3_ap, sl_lst, sl_scr, sl_tup, chK1_ap, chK2_ap, chK3_t, chK3_f, chK4_ap, isiK_int, isiK_str, isiK_bl, isiK_non, isiK_tup, isiK_lst, mtsK_str, mtsK2_ap, ilK_lst, ilK_scr, itK_tup, isK_str, izK_l, izK_t, retK_ap, sifK_t, sifK_f, sexprK_ap, asgK_ap, bG_ok, forK_ap, parK_ok, gK_ok, subK1_ok, subK2_ok, add_int, sub_int, mod_int, lt_int, le_int, gt_int, ge_int, eq_int, eq_str, eq_bl, eq_is, eq_si, eq_bs, eq_sb, eq_nn, ne_int, ne_str, ne_bl, isn_ap, isN_int, isN_str, isN_bl, isN_tup, isN_lst, isN_non, ix_lst, ix_tup, ix_scr, len_lst, len_tup, int_int, list_lst, list_tup, tuple_lst, tuple_tup, asB_bl, getD0, getDS, set0, setS, at0, atS, map_some', bind_some', List.length_cons, List.length_nil, List.any_cons, List.any_nil, decide_true, decide_false, and_self, Nat.reduceLeDiff, Nat.reduceAdd, if_true, Int.reduceLT, Int.reduceNeg, Int.reducePow, Int.reduceToNat, Int.reduceLE, Nat.reduceLT, Int.reduceAdd, Int.reduceSub, Bool.not_true, Bool.not_false, Int.reduceEq, bne_self_eq_false, Bool.false_bne, Bool.true_bne, Int.reduceBNe, atl0, atl1, atl2, List.cons.injEq, Nat.reduceEqDiff, false_and, and_false, add_str (a := z) (b := [46]) (by simp; omega), add_str (a := z ++ [46]) (b := y) (by simp; omega)]
    rw [endP_ok rfl, List.append_assoc]
    rfl
  | own y =>
    have l' : (sOwn ++ ([46] ++ y)).length ≤ 40 := l
    rw [List.length_append, List.length_append] at l'
    simp only [m__law_value_text, Pl.d, sOwn, ↓seq_ap, ↓var_ap, ↓c_ap, ↓bin_ap, ↓tst_ap, ↓not_ap, ↓and_ap, ↓or_ap, ↓if_ap, ↓andv_ap, ↓orv_ap, ↓notv_ap, ↓nil_ap, ↓cons_ap, ↓tup_ap, ↓lst_ap, ↓call_ap, ↓callP_ap, ↓callI_ap, ↓perm_ap, ↓nop_ap, ↓smp_ap, ↓sl_ap, ↓chain_ap, ↓isi_ap, ↓lc_ap, ↓lstC_ap, ↓mts_ap, ↓yes_ap, ↓il_ap, ↓it_ap, ↓is_ap, ↓ir1_ap, ↓iz_ap, ↓snil_ap, ↓ret_ap, ↓sif_ap, ↓sexpr_ap, ↓bk_ap, ↓ct_ap, ↓asg_ap, ↓for_ap, ↓par_ap, ↓gname_ap, ↓gnil_ap, ↓gcons_ap, ↓gtup_ap, ↓gsub_ap, bR_ok, bR_ex, rt_some, sq_nx, sq_rt, sq_bk, sq_ct, sq_ex, bS_ok, bS_ex, binK1_ap, binK2_ap, tstK_b, notK_ap, andK_t, andK_f, orK_t, orK_f, ifK_t, ifK_f, andV_t, andV_f, orV_t, orV_f, notV_c, consK1_ap, consK2_ap, tupK_ok, lstK_ok, callK_ap, permK_ap, smP_int, slK1_ap, slK2_ap, slK3_ap, sl_lst, sl_scr, sl_tup, chK1_ap, chK2_ap, chK3_t, chK3_f, chK4_ap, isiK_int, isiK_str, isiK_bl, isiK_non, isiK_tup, isiK_lst, mtsK_str, mtsK2_ap, ilK_lst, ilK_scr, itK_tup, isK_str, izK_l, izK_t, retK_ap, sifK_t, sifK_f, sexprK_ap, asgK_ap, bG_ok, forK_ap, parK_ok, gK_ok, subK1_ok, subK2_ok, add_int, sub_int, mod_int, lt_int, le_int, gt_int, ge_int, eq_int, eq_str, eq_bl, eq_is, eq_si, eq_bs, eq_sb, eq_nn, ne_int, ne_str, ne_bl, isn_ap, isN_int, isN_str, isN_bl, isN_tup, isN_lst, isN_non, ix_lst, ix_tup, ix_scr, len_lst, len_tup, int_int, list_lst, list_tup, tuple_lst, tuple_tup, asB_bl, getD0, getDS, set0, setS, at0, atS, map_some', bind_some', List.length_cons, List.length_nil, List.any_cons, List.any_nil, decide_true, decide_false, and_self, Nat.reduceLeDiff, Nat.reduceAdd, if_true, Int.reduceLT, Int.reduceNeg, Int.reducePow, Int.reduceToNat, Int.reduceLE, Nat.reduceLT, Int.reduceAdd, Int.reduceSub, Bool.not_true, Bool.not_false, Int.reduceEq, bne_self_eq_false, Bool.false_bne, Bool.true_bne, Int.reduceBNe, atl0, atl1, atl2, in_on, List.cons.injEq, Nat.reduceEqDiff, false_and, and_false, List.mem_cons, List.not_mem_nil, or_false, and_true, true_or, or_true, add_str (a := [111, 119, 110]) (b := [46]) (by decide), add_str (a := [111, 119, 110] ++ [46]) (b := y) (by simp; omega)]
    rw [endP_ok rfl, List.append_assoc]
    rfl
  | next y =>
    have l' : (sNext ++ ([46] ++ y)).length ≤ 40 := l
    rw [List.length_append, List.length_append] at l'
    simp only [m__law_value_text, Pl.d, sNext, ↓seq_ap, ↓var_ap, ↓c_ap, ↓bin_ap, ↓tst_ap, ↓not_ap, ↓and_ap, ↓or_ap, ↓if_ap, ↓andv_ap, ↓orv_ap, ↓notv_ap, ↓nil_ap, ↓cons_ap, ↓tup_ap, ↓lst_ap, ↓call_ap, ↓callP_ap, ↓callI_ap, ↓perm_ap, ↓nop_ap, ↓smp_ap, ↓sl_ap, ↓chain_ap, ↓isi_ap, ↓lc_ap, ↓lstC_ap, ↓mts_ap, ↓yes_ap, ↓il_ap, ↓it_ap, ↓is_ap, ↓ir1_ap, ↓iz_ap, ↓snil_ap, ↓ret_ap, ↓sif_ap, ↓sexpr_ap, ↓bk_ap, ↓ct_ap, ↓asg_ap, ↓for_ap, ↓par_ap, ↓gname_ap, ↓gnil_ap, ↓gcons_ap, ↓gtup_ap, ↓gsub_ap, bR_ok, bR_ex, rt_some, sq_nx, sq_rt, sq_bk, sq_ct, sq_ex, bS_ok, bS_ex, binK1_ap, binK2_ap, tstK_b, notK_ap, andK_t, andK_f, orK_t, orK_f, ifK_t, ifK_f, andV_t, andV_f, orV_t, orV_f, notV_c, consK1_ap, consK2_ap, tupK_ok, lstK_ok, callK_ap, permK_ap, smP_int, slK1_ap, slK2_ap, slK3_ap, sl_lst, sl_scr, sl_tup, chK1_ap, chK2_ap, chK3_t, chK3_f, chK4_ap, isiK_int, isiK_str, isiK_bl, isiK_non, isiK_tup, isiK_lst, mtsK_str, mtsK2_ap, ilK_lst, ilK_scr, itK_tup, isK_str, izK_l, izK_t, retK_ap, sifK_t, sifK_f, sexprK_ap, asgK_ap, bG_ok, forK_ap, parK_ok, gK_ok, subK1_ok, subK2_ok, add_int, sub_int, mod_int, lt_int, le_int, gt_int, ge_int, eq_int, eq_str, eq_bl, eq_is, eq_si, eq_bs, eq_sb, eq_nn, ne_int, ne_str, ne_bl, isn_ap, isN_int, isN_str, isN_bl, isN_tup, isN_lst, isN_non, ix_lst, ix_tup, ix_scr, len_lst, len_tup, int_int, list_lst, list_tup, tuple_lst, tuple_tup, asB_bl, getD0, getDS, set0, setS, at0, atS, map_some', bind_some', List.length_cons, List.length_nil, List.any_cons, List.any_nil, decide_true, decide_false, and_self, Nat.reduceLeDiff, Nat.reduceAdd, if_true, Int.reduceLT, Int.reduceNeg, Int.reducePow, Int.reduceToNat, Int.reduceLE, Nat.reduceLT, Int.reduceAdd, Int.reduceSub, Bool.not_true, Bool.not_false, Int.reduceEq, bne_self_eq_false, Bool.false_bne, Bool.true_bne, Int.reduceBNe, atl0, atl1, atl2, in_on, List.cons.injEq, Nat.reduceEqDiff, false_and, and_false, List.mem_cons, List.not_mem_nil, or_false, and_true, true_or, or_true, add_str (a := [110, 101, 120, 116]) (b := [46]) (by decide), add_str (a := [110, 101, 120, 116] ++ [46]) (b := y) (by simp; omega)]
    rw [endP_ok rfl, List.append_assoc]
    rfl
theorem ltext {v : Vl} (h : v.ok = true) : F__law_value_text [v.d] = some (.ok (.str v.txt)) := by
  cases v with
  | pl p => exact ltext_p h 2
  | plus p m =>
    have h' := Bool.and_eq_true_iff.mp (show (p.ok && isCon m) = true from h)
    have a := ptxt_len h'.1
    have b := tail_len h'.2
    show endP (m__law_value_text (F__law_value_text_ 2) [some (Vl.plus p m).d, none] []) = _
    by_cases q : m < 0
    · have eT : pTail m = [32, 45, 32] ++ decI (0 - m) := if_pos q
      rw [eT] at b
      simp only [m__law_value_text, Vl.d, sPlus, ↓seq_ap, ↓var_ap, ↓c_ap, ↓bin_ap, ↓tst_ap, ↓not_ap, ↓and_ap, ↓or_ap, ↓if_ap, ↓andv_ap, ↓orv_ap, ↓notv_ap, ↓nil_ap, ↓cons_ap, ↓tup_ap, ↓lst_ap, ↓call_ap, ↓callP_ap, ↓callI_ap, ↓perm_ap, ↓nop_ap, ↓smp_ap, ↓sl_ap, ↓chain_ap, ↓isi_ap, ↓lc_ap, ↓lstC_ap, ↓mts_ap, ↓yes_ap, ↓il_ap, ↓it_ap, ↓is_ap, ↓ir1_ap, ↓iz_ap, ↓snil_ap, ↓ret_ap, ↓sif_ap, ↓sexpr_ap, ↓bk_ap, ↓ct_ap, ↓asg_ap, ↓for_ap, ↓par_ap, ↓gname_ap, ↓gnil_ap, ↓gcons_ap, ↓gtup_ap, ↓gsub_ap, bR_ok, bR_ex, rt_some, sq_nx, sq_rt, sq_bk, sq_ct, sq_ex, bS_ok, bS_ex, binK1_ap, binK2_ap, tstK_b, notK_ap, andK_t, andK_f, orK_t, orK_f, ifK_t, ifK_f, andV_t, andV_f, orV_t, orV_f, notV_c, consK1_ap, consK2_ap, tupK_ok, lstK_ok, callK_ap, permK_ap, smP_int, slK1_ap, slK2_ap, slK3_ap, sl_lst, sl_scr, sl_tup, chK1_ap, chK2_ap, chK3_t, chK3_f, chK4_ap, isiK_int, isiK_str, isiK_bl, isiK_non, isiK_tup, isiK_lst, mtsK_str, mtsK2_ap, ilK_lst, ilK_scr, itK_tup, isK_str, izK_l, izK_t, retK_ap, sifK_t, sifK_f, sexprK_ap, asgK_ap, bG_ok, forK_ap, parK_ok, gK_ok, subK1_ok, subK2_ok, add_int, sub_int, mod_int, lt_int, le_int, gt_int, ge_int, eq_int, eq_str, eq_bl, eq_is, eq_si, eq_bs, eq_sb, eq_nn, ne_int, ne_str, ne_bl, isn_ap, isN_int, isN_str, isN_bl, isN_tup, isN_lst, isN_non, ix_lst, ix_tup, ix_scr, len_lst, len_tup, int_int, list_lst, list_tup, tuple_lst, tuple_tup, asB_bl, getD0, getDS, set0, setS, at0, atS, map_some', bind_some', List.length_cons, List.length_nil, List.any_cons, List.any_nil, decide_true, decide_false, and_self, Nat.reduceLeDiff, Nat.reduceAdd, if_true, Int.reduceLT, Int.reduceNeg, Int.reducePow, Int.reduceToNat, Int.reduceLE, Nat.reduceLT, Int.reduceAdd, Int.reduceSub, Bool.not_true, Bool.not_false, Int.reduceEq, bne_self_eq_false, Bool.false_bne, Bool.true_bne, Int.reduceBNe, atl0, atl1, atl2, q, callPK_ok (ltext_p h'.1 1) (go1 p.noRef), str_int (sub_abs h'.2 q), add_str (a := [32, 45, 32]) (b := decI (0 - m)) (by simp at b ⊢; omega), add_str (a := p.txt) (b := [32, 45, 32] ++ decI (0 - m)) (by omega)]
      rw [endP_ok rfl, ← eT]
      rfl
    · have eT : pTail m = [32, 43, 32] ++ decI m := if_neg q
      rw [eT] at b
      simp only [m__law_value_text, Vl.d, sPlus, ↓seq_ap, ↓var_ap, ↓c_ap, ↓bin_ap, ↓tst_ap, ↓not_ap, ↓and_ap, ↓or_ap, ↓if_ap, ↓andv_ap, ↓orv_ap, ↓notv_ap, ↓nil_ap, ↓cons_ap, ↓tup_ap, ↓lst_ap, ↓call_ap, ↓callP_ap, ↓callI_ap, ↓perm_ap, ↓nop_ap, ↓smp_ap, ↓sl_ap, ↓chain_ap, ↓isi_ap, ↓lc_ap, ↓lstC_ap, ↓mts_ap, ↓yes_ap, ↓il_ap, ↓it_ap, ↓is_ap, ↓ir1_ap, ↓iz_ap, ↓snil_ap, ↓ret_ap, ↓sif_ap, ↓sexpr_ap, ↓bk_ap, ↓ct_ap, ↓asg_ap, ↓for_ap, ↓par_ap, ↓gname_ap, ↓gnil_ap, ↓gcons_ap, ↓gtup_ap, ↓gsub_ap, bR_ok, bR_ex, rt_some, sq_nx, sq_rt, sq_bk, sq_ct, sq_ex, bS_ok, bS_ex, binK1_ap, binK2_ap, tstK_b, notK_ap, andK_t, andK_f, orK_t, orK_f, ifK_t, ifK_f, andV_t, andV_f, orV_t, orV_f, notV_c, consK1_ap, consK2_ap, tupK_ok, lstK_ok, callK_ap, permK_ap, smP_int, slK1_ap, slK2_ap, slK3_ap, sl_lst, sl_scr, sl_tup, chK1_ap, chK2_ap, chK3_t, chK3_f, chK4_ap, isiK_int, isiK_str, isiK_bl, isiK_non, isiK_tup, isiK_lst, mtsK_str, mtsK2_ap, ilK_lst, ilK_scr, itK_tup, isK_str, izK_l, izK_t, retK_ap, sifK_t, sifK_f, sexprK_ap, asgK_ap, bG_ok, forK_ap, parK_ok, gK_ok, subK1_ok, subK2_ok, add_int, sub_int, mod_int, lt_int, le_int, gt_int, ge_int, eq_int, eq_str, eq_bl, eq_is, eq_si, eq_bs, eq_sb, eq_nn, ne_int, ne_str, ne_bl, isn_ap, isN_int, isN_str, isN_bl, isN_tup, isN_lst, isN_non, ix_lst, ix_tup, ix_scr, len_lst, len_tup, int_int, list_lst, list_tup, tuple_lst, tuple_tup, asB_bl, getD0, getDS, set0, setS, at0, atS, map_some', bind_some', List.length_cons, List.length_nil, List.any_cons, List.any_nil, decide_true, decide_false, and_self, Nat.reduceLeDiff, Nat.reduceAdd, if_true, Int.reduceLT, Int.reduceNeg, Int.reducePow, Int.reduceToNat, Int.reduceLE, Nat.reduceLT, Int.reduceAdd, Int.reduceSub, Bool.not_true, Bool.not_false, Int.reduceEq, bne_self_eq_false, Bool.false_bne, Bool.true_bne, Int.reduceBNe, atl0, atl1, atl2, q, callPK_ok (ltext_p h'.1 1) (go1 p.noRef), str_int (isCon_abs h'.2), add_str (a := [32, 43, 32]) (b := decI m) (by simp at b ⊢; omega), add_str (a := p.txt) (b := [32, 43, 32] ++ decI m) (by omega)]
      rw [endP_ok rfl, ← eT]
      rfl
/-! ### reading -/
def digs : List Nat := [48, 49, 50, 51, 52, 53, 54, 55, 56, 57]
theorem mem_digs {c : Nat} (h : 48 ≤ c ∧ c ≤ 57) : c ∈ digs := by
  have key : ∀ c, c < 58 → 48 ≤ c → c ∈ digs := by decide
  exact key c (by omega) h.1
theorem intIn {i : Int} (h : isCon i = true) : F_integer_in [.str (decI i), .int 31] = some (.ok (.int i)) := by
  have hi := isCon_abs h
  have hl := decI_len hi
  have l31 := numL_31 hi
  have l1 := numL_pos i.natAbs
  have eb : stL (Txt.removeprefix (toS (decI i)) (toS [45])) = TL.numL i.natAbs := by
    rcases decI_cases i with ⟨_, e⟩ | ⟨_, _, e⟩
    · rw [e]
      refine rmp_miss fun hh => ?_
      have := TL.numL_digits i.natAbs 45 (List.mem_of_head? hh)
      omega
    · rw [e]; exact rmp_hit _
  have rm : ∀ h : EH, dRmp h (decI i) [.str [45]] = some (.str (TL.numL i.natAbs)) := fun h => by
    show (if (decI i).length ≤ 16777216 then some (D.str (stL (Txt.removeprefix (toS (decI i)) (toS [45])))) else none) = _
    rw [if_pos (by omega), eb]
  have lc := lcL_map (g := mgName 3) (t := mYes) (e := mBin dInA (mVar 3) (mC g_DIGITS)) (ε := [some (.str (decI i)), some (.int 31), some (.str (TL.numL i.natAbs)), none]) (h := []) (ds := (TL.numL i.natAbs).map fun c => D.str [c]) (fun _ => .bl true) fun d hd => by
    obtain ⟨c, hc, rfl⟩ := List.mem_map.mp hd
    refine ⟨[some (.str (decI i)), some (.int 31), some (.str (TL.numL i.natAbs)), some (.str [c])], rfl, rfl, ?_⟩
    have hm : c ∈ [48, 49, 50, 51, 52, 53, 54, 55, 56, 57] := mem_digs (TL.numL_digits _ c hc)
    simp only [↓seq_ap, ↓var_ap, ↓c_ap, ↓bin_ap, ↓tst_ap, ↓not_ap, ↓and_ap, ↓or_ap, ↓if_ap, ↓andv_ap, ↓orv_ap, ↓notv_ap, ↓nil_ap, ↓cons_ap, ↓tup_ap, ↓lst_ap, ↓call_ap, ↓callP_ap, ↓callI_ap, ↓perm_ap, ↓nop_ap, ↓smp_ap, ↓sl_ap, ↓chain_ap, ↓isi_ap, ↓lc_ap, ↓lstC_ap, ↓mts_ap, ↓yes_ap, ↓il_ap, ↓it_ap, ↓is_ap, ↓ir1_ap, ↓iz_ap, ↓snil_ap, ↓ret_ap, ↓sif_ap, ↓sexpr_ap, ↓bk_ap, ↓ct_ap, ↓asg_ap, ↓for_ap, ↓par_ap, ↓gname_ap, ↓gnil_ap, ↓gcons_ap, ↓gtup_ap, ↓gsub_ap, bR_ok, bR_ex, rt_some, sq_nx, sq_rt, sq_bk, sq_ct, sq_ex, bS_ok, bS_ex, binK1_ap, binK2_ap, tstK_b, notK_ap, andK_t, andK_f, orK_t, orK_f, ifK_t, ifK_f, andV_t, andV_f, orV_t, orV_f, notV_c, consK1_ap, consK2_ap, tupK_ok, lstK_ok, callK_ap, permK_ap, smP_int, slK1_ap, slK2_ap, slK3_ap, sl_lst, sl_scr, sl_tup, chK1_ap, chK2_ap, chK3_t, chK3_f, chK4_ap, isiK_int, isiK_str, isiK_bl, isiK_non, isiK_tup, isiK_lst, mtsK_str, mtsK2_ap, ilK_lst, ilK_scr, itK_tup, isK_str, izK_l, izK_t, retK_ap, sifK_t, sifK_f, sexprK_ap, asgK_ap, bG_ok, forK_ap, parK_ok, gK_ok, subK1_ok, subK2_ok, add_int, sub_int, mod_int, lt_int, le_int, gt_int, ge_int, eq_int, eq_str, eq_bl, eq_is, eq_si, eq_bs, eq_sb, eq_nn, ne_int, ne_str, ne_bl, isn_ap, isN_int, isN_str, isN_bl, isN_tup, isN_lst, isN_non, ix_lst, ix_tup, ix_scr, len_lst, len_tup, int_int, list_lst, list_tup, tuple_lst, tuple_tup, asB_bl, getD0, getDS, set0, setS, at0, atS, map_some', bind_some', List.length_cons, List.length_nil, List.any_cons, List.any_nil, decide_true, decide_false, and_self, Nat.reduceLeDiff, Nat.reduceAdd, if_true, Int.reduceLT, Int.reduceNeg, Int.reducePow, Int.reduceToNat, Int.reduceLE, Nat.reduceLT, Int.reduceAdd, Int.reduceSub, Bool.not_true, Bool.not_false, Int.reduceEq, bne_self_eq_false, Bool.false_bne, Bool.true_bne, Int.reduceBNe, g_DIGITS, in_sign, hm]
  have lk := lcK_ok (vs := [3]) (ε := [some (.str (decI i)), some (.int 31), some (.str (TL.numL i.natAbs)), none]) (h := []) lc (by simp; omega)
  have ab : asBs (((TL.numL i.natAbs).map fun c => D.str [c]).map fun _ => D.bl true) = some (((TL.numL i.natAbs).map fun c => D.str [c]).map fun _ => true) := asBs_map _ _
  have q1 : (1 : Int) ≤ (TL.numL i.natAbs).length := by omega
  have q2 : ((TL.numL i.natAbs).length : Int) ≤ 31 := by omega
  have al : ((((TL.numL i.natAbs).map fun c => D.str [c]).map fun _ => true).all id) = true := by simp
  show endP (m_integer_in [some (.str (decI i)), some (.int 31), none, none] []) = _
  simp only [m_integer_in, ↓seq_ap, ↓var_ap, ↓c_ap, ↓bin_ap, ↓tst_ap, ↓not_ap, ↓and_ap, ↓or_ap, ↓if_ap, ↓andv_ap, ↓orv_ap, ↓notv_ap, ↓nil_ap, ↓cons_ap, ↓tup_ap, ↓lst_ap, ↓call_ap, ↓callP_ap, ↓callI_ap, ↓perm_ap, ↓nop_ap, ↓smp_ap, ↓sl_ap, ↓chain_ap, ↓isi_ap, ↓lc_ap, ↓lstC_ap, ↓mts_ap, ↓yes_ap, ↓il_ap, ↓it_ap, ↓is_ap, ↓ir1_ap, ↓iz_ap, ↓snil_ap, ↓ret_ap, ↓sif_ap, ↓sexpr_ap, ↓bk_ap, ↓ct_ap, ↓asg_ap, ↓for_ap, ↓par_ap, ↓gname_ap, ↓gnil_ap, ↓gcons_ap, ↓gtup_ap, ↓gsub_ap, bR_ok, bR_ex, rt_some, sq_nx, sq_rt, sq_bk, sq_ct, sq_ex, bS_ok, bS_ex, binK1_ap, binK2_ap, tstK_b, notK_ap, andK_t, andK_f, orK_t, orK_f, ifK_t, ifK_f, andV_t, andV_f, orV_t, orV_f, notV_c, consK1_ap, consK2_ap, tupK_ok, lstK_ok, callK_ap, permK_ap, smP_int, slK1_ap, slK2_ap, slK3_ap, sl_lst, sl_scr, sl_tup, chK1_ap, chK2_ap, chK3_t, chK3_f, chK4_ap, isiK_int, isiK_str, isiK_bl, isiK_non, isiK_tup, isiK_lst, mtsK_str, mtsK2_ap, ilK_lst, ilK_scr, itK_tup, isK_str, izK_l, izK_t, retK_ap, sifK_t, sifK_f, sexprK_ap, asgK_ap, bG_ok, forK_ap, parK_ok, gK_ok, subK1_ok, subK2_ok, add_int, sub_int, mod_int, lt_int, le_int, gt_int, ge_int, eq_int, eq_str, eq_bl, eq_is, eq_si, eq_bs, eq_sb, eq_nn, ne_int, ne_str, ne_bl, isn_ap, isN_int, isN_str, isN_bl, isN_tup, isN_lst, isN_non, ix_lst, ix_tup, ix_scr, len_lst, len_tup, int_int, list_lst, list_tup, tuple_lst, tuple_tup, asB_bl, getD0, getDS, set0, setS, at0, atS, map_some', bind_some', List.length_cons, List.length_nil, List.any_cons, List.any_nil, decide_true, decide_false, and_self, Nat.reduceLeDiff, Nat.reduceAdd, if_true, Int.reduceLT, Int.reduceNeg, Int.reducePow, Int.reduceToNat, Int.reduceLE, Nat.reduceLT, Int.reduceAdd, Int.reduceSub, Bool.not_true, Bool.not_false, Int.reduceEq, bne_self_eq_false, Bool.false_bne, Bool.true_bne, Int.reduceBNe, rm, len_str (z := TL.numL i.natAbs) (by omega), q1, q2, lk, all_lst ab, al, int_txt hi, str_int hi]
  exact endP_ok rfl
theorem first_in {z : List Nat} {c : Nat} {r : List Nat} (e : z = c :: r) (hz : z.length ≤ 16777216) {h : EH} : dIx h (.str z) (.int 0) = some (.str [c]) := by
  subst e
  rw [ix_str hz, atI_nat _ 0 0 rfl]
  rfl
theorem plainIn {p : Pl} (h : p.ok = true) : F_plain_in [.str p.txt] = some (.ok p.d) := by
  have hp := callPK_ok (F := F_is_plain) (h := []) (isPlain_ok h) (go1 p.noRef)
  have l := ptxt_len h
  have hnr : noRef p.d = true := p.noRef
  show endP (m_plain_in [some (.str p.txt), none, none, none, none, none] []) = _
  have pd : ∀ h : EH, dPart h p.txt [.str [46]] = some (.tup [.str (partD p.txt [46]).1, .str (partD p.txt [46]).2.1, .str (partD p.txt [46]).2.2]) := fun h => if_pos ⟨by simp, by omega⟩
  cases p with
  | num n =>
    have hn := isCon_abs h
    have e46 : partD (decI n) [46] = (decI n, [], []) := partD_none (decI_free (by omega))
    have pd' : ∀ h : EH, dPart h (decI n) [.str [46]] = some (.tup [.str (decI n), .str [], .str []]) := fun h => by rw [show dPart h (decI n) [.str [46]] = _ from pd h]; show some (D.tup [.str (partD (decI n) [46]).1, .str (partD (decI n) [46]).2.1, .str (partD (decI n) [46]).2.2]) = _; rw [e46]
    obtain ⟨c, r, ec, hc⟩ : ∃ c r, decI n = c :: r ∧ c ∈ [45, 48, 49, 50, 51, 52, 53, 54, 55, 56, 57] := by
      rcases decI_cases n with ⟨_, e⟩ | ⟨_, _, e⟩
      · cases q : TL.numL n.natAbs with
        | nil => exact absurd q (TL.numL_ne _)
        | cons c r =>
          refine ⟨c, r, e.trans q, List.mem_cons_of_mem _ (mem_digs (TL.numL_digits n.natAbs c (by rw [q]; exact List.mem_cons_self)))⟩
      · exact ⟨45, _, e, by decide⟩
    have ne : ¬ decI n = [] := by rw [ec]; simp
    have i31 := callPK_ok (F := fun ds => F_integer_in (ds ++ [D.int 31])) (ds := [.str (decI n)]) (h := []) (intIn h) rfl
    simp only [Pl.d, sNumber] at hp hnr
    simp only [m_plain_in, Pl.txt, ↓seq_ap, ↓var_ap, ↓c_ap, ↓bin_ap, ↓tst_ap, ↓not_ap, ↓and_ap, ↓or_ap, ↓if_ap, ↓andv_ap, ↓orv_ap, ↓notv_ap, ↓nil_ap, ↓cons_ap, ↓tup_ap, ↓lst_ap, ↓call_ap, ↓callP_ap, ↓callI_ap, ↓perm_ap, ↓nop_ap, ↓smp_ap, ↓sl_ap, ↓chain_ap, ↓isi_ap, ↓lc_ap, ↓lstC_ap, ↓mts_ap, ↓yes_ap, ↓il_ap, ↓it_ap, ↓is_ap, ↓ir1_ap, ↓iz_ap, ↓snil_ap, ↓ret_ap, ↓sif_ap, ↓sexpr_ap, ↓bk_ap, ↓ct_ap, ↓asg_ap, ↓for_ap, ↓par_ap, ↓gname_ap, ↓gnil_ap, ↓gcons_ap, ↓gtup_ap, ↓gsub_ap, bR_ok, bR_ex, rt_some, sq_nx, sq_rt, sq_bk, sq_ct, sq_ex, bS_ok, bS_ex, binK1_ap, binK2_ap, tstK_b, notK_ap, andK_t, andK_f, orK_t, orK_f, ifK_t, ifK_f, andV_t, andV_f, orV_t, orV_f, notV_c, consK1_ap, consK2_ap, tupK_ok, lstK_ok, callK_ap, permK_ap, smP_int, slK1_ap, slK2_ap, slK3_ap, sl_lst, sl_scr, sl_tup, chK1_ap, chK2_ap, chK3_t, chK3_f, chK4_ap, isiK_int, isiK_str, isiK_bl, isiK_non, isiK_tup, isiK_lst, mtsK_str, mtsK2_ap, ilK_lst, ilK_scr, itK_tup, isK_str, izK_l, izK_t, retK_ap, sifK_t, sifK_f, sexprK_ap, asgK_ap, bG_ok, forK_ap, parK_ok, gK_ok, subK1_ok, subK2_ok, add_int, sub_int, mod_int, lt_int, le_int, gt_int, ge_int, eq_int, eq_str, eq_bl, eq_is, eq_si, eq_bs, eq_sb, eq_nn, ne_int, ne_str, ne_bl, isn_ap, isN_int, isN_str, isN_bl, isN_tup, isN_lst, isN_non, ix_lst, ix_tup, ix_scr, len_lst, len_tup, int_int, list_lst, list_tup, tuple_lst, tuple_tup, asB_bl, getD0, getDS, set0, setS, at0, atS, map_some', bind_some', List.length_cons, List.length_nil, List.any_cons, List.any_nil, decide_true, decide_false, and_self, Nat.reduceLeDiff, Nat.reduceAdd, if_true, Int.reduceLT, Int.reduceNeg, Int.reducePow, Int.reduceToNat, Int.reduceLE, Nat.reduceLT, Int.reduceAdd, Int.reduceSub, Bool.not_true, Bool.not_false, Int.reduceEq, bne_self_eq_false, Bool.false_bne, Bool.true_bne, Int.reduceBNe, pd', ne, first_in ec (by show (decI n).length ≤ 16777216; have := (decI_len hn).2; omega), g_DIGITS, add_str (a := [45]) (b := [48, 49, 50, 51, 52, 53, 54, 55, 56, 57]) (by decide), List.cons_append, List.nil_append, in_sign, hc, i31, hp]
    exact endP_ok hnr
  | name z =>
    have hz := isNm_len (show isNm z = true from h)
    have e46 : partD z [46] = (z, [], []) := partD_none (nm_free h (by omega))
    have pd' : ∀ h : EH, dPart h z [.str [46]] = some (.tup [.str z, .str [], .str []]) := fun h => by rw [show dPart h z [.str [46]] = _ from pd h]; show some (D.tup [.str (partD z [46]).1, .str (partD z [46]).2.1, .str (partD z [46]).2.2]) = _; rw [e46]
    obtain ⟨c, r, ec⟩ : ∃ c r, z = c :: r := by
      cases z with
      | nil => simp at hz
      | cons c r => exact ⟨c, r, rfl⟩
    have hc : c ∉ [45, 48, 49, 50, 51, 52, 53, 54, 55, 56, 57] := by
      have := abc_rng (nm_mem (show isNm z = true from h) (c := c) (by rw [ec]; exact List.mem_cons_self))
      intro hm
      have key : ∀ c ∈ [45, 48, 49, 50, 51, 52, 53, 54, 55, 56, 57], c < 97 := by decide
      have := key c hm
      omega
    have ne : ¬ z = [] := by rw [ec]; simp
    simp only [Pl.d, sName] at hp hnr
    simp only [m_plain_in, Pl.txt, ↓seq_ap, ↓var_ap, ↓c_ap, ↓bin_ap, ↓tst_ap, ↓not_ap, ↓and_ap, ↓or_ap, ↓if_ap, ↓andv_ap, ↓orv_ap, ↓notv_ap, ↓nil_ap, ↓cons_ap, ↓tup_ap, ↓lst_ap, ↓call_ap, ↓callP_ap, ↓callI_ap, ↓perm_ap, ↓nop_ap, ↓smp_ap, ↓sl_ap, ↓chain_ap, ↓isi_ap, ↓lc_ap, ↓lstC_ap, ↓mts_ap, ↓yes_ap, ↓il_ap, ↓it_ap, ↓is_ap, ↓ir1_ap, ↓iz_ap, ↓snil_ap, ↓ret_ap, ↓sif_ap, ↓sexpr_ap, ↓bk_ap, ↓ct_ap, ↓asg_ap, ↓for_ap, ↓par_ap, ↓gname_ap, ↓gnil_ap, ↓gcons_ap, ↓gtup_ap, ↓gsub_ap, bR_ok, bR_ex, rt_some, sq_nx, sq_rt, sq_bk, sq_ct, sq_ex, bS_ok, bS_ex, binK1_ap, binK2_ap, tstK_b, notK_ap, andK_t, andK_f, orK_t, orK_f, ifK_t, ifK_f, andV_t, andV_f, orV_t, orV_f, notV_c, consK1_ap, consK2_ap, tupK_ok, lstK_ok, callK_ap, permK_ap, smP_int, slK1_ap, slK2_ap, slK3_ap, sl_lst, sl_scr, sl_tup, chK1_ap, chK2_ap, chK3_t, chK3_f, chK4_ap, isiK_int, isiK_str, isiK_bl, isiK_non, isiK_tup, isiK_lst, mtsK_str, mtsK2_ap, ilK_lst, ilK_scr, itK_tup, isK_str, izK_l, izK_t, retK_ap, sifK_t, sifK_f, sexprK_ap, asgK_ap, bG_ok, forK_ap, parK_ok, gK_ok, subK1_ok, subK2_ok, add_int, sub_int, mod_int, lt_int, le_int, gt_int, ge_int, eq_int, eq_str, eq_bl, eq_is, eq_si, eq_bs, eq_sb, eq_nn, ne_int, ne_str, ne_bl, isn_ap, isN_int, isN_str, isN_bl, isN_tup, isN_lst, isN_non, ix_lst, ix_tup, ix_scr, len_lst, len_tup, int_int, list_lst, list_tup, tuple_lst, tuple_tup, asB_bl, getD0, getDS, set0, setS, at0, atS, map_some', bind_some', List.length_cons, List.length_nil, List.any_cons, List.any_nil, decide_true, decide_false, and_self, Nat.reduceLeDiff, Nat.reduceAdd, if_true, Int.reduceLT, Int.reduceNeg, Int.reducePow, Int.reduceToNat, Int.reduceLE, Nat.reduceLT, Int.reduceAdd, Int.reduceSub, Bool.not_true, Bool.not_false, Int.reduceEq, bne_self_eq_false, Bool.false_bne, Bool.true_bne, Int.reduceBNe, pd', ne, first_in ec (by omega), g_DIGITS, add_str (a := [45]) (b := [48, 49, 50, 51, 52, 53, 54, 55, 56, 57]) (by decide), List.cons_append, List.nil_append, in_sign, hc, hp]
    exact endP_ok hnr
  | field z y =>
    have h' := Bool.and_eq_true_iff.mp (show (isNm z && isCol y) = true from h)
    have e46 : partD (z ++ ([46] ++ y)) [46] = (z, [46], y) := partD_app (nm_free h'.1 (by omega))
    have pd' : ∀ h : EH, dPart h (z ++ ([46] ++ y)) [.str [46]] = some (.tup [.str z, .str [46], .str y]) := fun h => by rw [show dPart h (z ++ ([46] ++ y)) [.str [46]] = _ from pd h]; show some (D.tup [.str (partD (z ++ ([46] ++ y)) [46]).1, .str (partD (z ++ ([46] ++ y)) [46]).2.1, .str (partD (z ++ ([46] ++ y)) [46]).2.2]) = _; rw [e46]
    have nr : z ∉ resv := by
      have := h'.1
      unfold isNm at this
      simp only [Bool.and_eq_true, Bool.not_eq_true', decide_eq_false_iff_not] at this
      exact this.2.2.1
    have n1 : ¬ z = [111, 119, 110] := fun e => nr (by rw [e]; decide)
    have n2 : ¬ z = [110, 101, 120, 116] := fun e => nr (by rw [e]; decide)
    simp only [Pl.d, sField] at hp hnr
    simp only [m_plain_in, Pl.txt, ↓seq_ap, ↓var_ap, ↓c_ap, ↓bin_ap, ↓tst_ap, ↓not_ap, ↓and_ap, ↓or_ap, ↓if_ap, ↓andv_ap, ↓orv_ap, ↓notv_ap, ↓nil_ap, ↓cons_ap, ↓tup_ap, ↓lst_ap, ↓call_ap, ↓callP_ap, ↓callI_ap, ↓perm_ap, ↓nop_ap, ↓smp_ap, ↓sl_ap, ↓chain_ap, ↓isi_ap, ↓lc_ap, ↓lstC_ap, ↓mts_ap, ↓yes_ap, ↓il_ap, ↓it_ap, ↓is_ap, ↓ir1_ap, ↓iz_ap, ↓snil_ap, ↓ret_ap, ↓sif_ap, ↓sexpr_ap, ↓bk_ap, ↓ct_ap, ↓asg_ap, ↓for_ap, ↓par_ap, ↓gname_ap, ↓gnil_ap, ↓gcons_ap, ↓gtup_ap, ↓gsub_ap, bR_ok, bR_ex, rt_some, sq_nx, sq_rt, sq_bk, sq_ct, sq_ex, bS_ok, bS_ex, binK1_ap, binK2_ap, tstK_b, notK_ap, andK_t, andK_f, orK_t, orK_f, ifK_t, ifK_f, andV_t, andV_f, orV_t, orV_f, notV_c, consK1_ap, consK2_ap, tupK_ok, lstK_ok, callK_ap, permK_ap, smP_int, slK1_ap, slK2_ap, slK3_ap, sl_lst, sl_scr, sl_tup, chK1_ap, chK2_ap, chK3_t, chK3_f, chK4_ap, isiK_int, isiK_str, isiK_bl, isiK_non, isiK_tup, isiK_lst, mtsK_str, mtsK2_ap, ilK_lst, ilK_scr, itK_tup, isK_str, izK_l, izK_t, retK_ap, sifK_t, sifK_f, sexprK_ap, asgK_ap, bG_ok, forK_ap, parK_ok, gK_ok, subK1_ok, subK2_ok, add_int, sub_int, mod_int, lt_int, le_int, gt_int, ge_int, eq_int, eq_str, eq_bl, eq_is, eq_si, eq_bs, eq_sb, eq_nn, ne_int, ne_str, ne_bl, isn_ap, isN_int, isN_str, isN_bl, isN_tup, isN_lst, isN_non, ix_lst, ix_tup, ix_scr, len_lst, len_tup, int_int, list_lst, list_tup, tuple_lst, tuple_tup, asB_bl, getD0, getDS, set0, setS, at0, atS, map_some', bind_some', List.length_cons, List.length_nil, List.any_cons, List.any_nil, decide_true, decide_false, and_self, Nat.reduceLeDiff, Nat.reduceAdd, if_true, Int.reduceLT, Int.reduceNeg, Int.reducePow, Int.reduceToNat, Int.reduceLE, Nat.reduceLT, Int.reduceAdd, Int.reduceSub, Bool.not_true, Bool.not_false, Int.reduceEq, bne_self_eq_false, Bool.false_bne, Bool.true_bne, Int.reduceBNe, pd', in_on, n1, n2, List.cons.injEq, Nat.reduceEqDiff, false_and, and_false, List.mem_cons, List.not_mem_nil, or_false, and_true, true_or, or_true, reduceCtorEq, hp]
    exact endP_ok hnr
  | own y =>
    have e46 : partD (sOwn ++ ([46] ++ y)) [46] = (sOwn, [46], y) := partD_app (by decide)
    have pd' : ∀ h : EH, dPart h (sOwn ++ ([46] ++ y)) [.str [46]] = some (.tup [.str [111, 119, 110], .str [46], .str y]) := fun h => by rw [show dPart h (sOwn ++ ([46] ++ y)) [.str [46]] = _ from pd h]; show some (D.tup [.str (partD (sOwn ++ ([46] ++ y)) [46]).1, .str (partD (sOwn ++ ([46] ++ y)) [46]).2.1, .str (partD (sOwn ++ ([46] ++ y)) [46]).2.2]) = _; rw [e46]; rfl
    simp only [Pl.d, sOwn] at hp hnr
    simp only [m_plain_in, Pl.txt, ↓seq_ap, ↓var_ap, ↓c_ap, ↓bin_ap, ↓tst_ap, ↓not_ap, ↓and_ap, ↓or_ap, ↓if_ap, ↓andv_ap, ↓orv_ap, ↓notv_ap, ↓nil_ap, ↓cons_ap, ↓tup_ap, ↓lst_ap, ↓call_ap, ↓callP_ap, ↓callI_ap, ↓perm_ap, ↓nop_ap, ↓smp_ap, ↓sl_ap, ↓chain_ap, ↓isi_ap, ↓lc_ap, ↓lstC_ap, ↓mts_ap, ↓yes_ap, ↓il_ap, ↓it_ap, ↓is_ap, ↓ir1_ap, ↓iz_ap, ↓snil_ap, ↓ret_ap, ↓sif_ap, ↓sexpr_ap, ↓bk_ap, ↓ct_ap, ↓asg_ap, ↓for_ap, ↓par_ap, ↓gname_ap, ↓gnil_ap, ↓gcons_ap, ↓gtup_ap, ↓gsub_ap, bR_ok, bR_ex, rt_some, sq_nx, sq_rt, sq_bk, sq_ct, sq_ex, bS_ok, bS_ex, binK1_ap, binK2_ap, tstK_b, notK_ap, andK_t, andK_f, orK_t, orK_f, ifK_t, ifK_f, andV_t, andV_f, orV_t, orV_f, notV_c, consK1_ap, consK2_ap, tupK_ok, lstK_ok, callK_ap, permK_ap, smP_int, slK1_ap, slK2_ap, slK3_ap, sl_lst, sl_scr, sl_tup, chK1_ap, chK2_ap, chK3_t, chK3_f, chK4_ap, isiK_int, isiK_str, isiK_bl, isiK_non, isiK_tup, isiK_lst, mtsK_str, mtsK2_ap, ilK_lst, ilK_scr, itK_tup, isK_str, izK_l, izK_t, retK_ap, sifK_t, sifK_f, sexprK_ap, asgK_ap, bG_ok, forK_ap, parK_ok, gK_ok, subK1_ok, subK2_ok, add_int, sub_int, mod_int, lt_int, le_int, gt_int, ge_int, eq_int, eq_str, eq_bl, eq_is, eq_si, eq_bs, eq_sb, eq_nn, ne_int, ne_str, ne_bl, isn_ap, isN_int, isN_str, isN_bl, isN_tup, isN_lst, isN_non, ix_lst, ix_tup, ix_scr, len_lst, len_tup, int_int, list_lst, list_tup, tuple_lst, tuple_tup, asB_bl, getD0, getDS, set0, setS, at0, atS, map_some', bind_some', List.length_cons, List.length_nil, List.any_cons, List.any_nil, decide_true, decide_false, and_self, Nat.reduceLeDiff, Nat.reduceAdd, if_true, Int.reduceLT, Int.reduceNeg, Int.reducePow, Int.reduceToNat, Int.reduceLE, Nat.reduceLT, Int.reduceAdd, Int.reduceSub, Bool.not_true, Bool.not_false, Int.reduceEq, bne_self_eq_false, Bool.false_bne, Bool.true_bne, Int.reduceBNe, pd', in_on, List.cons.injEq, Nat.reduceEqDiff, false_and, and_false, List.mem_cons, List.not_mem_nil, or_false, and_true, true_or, or_true, reduceCtorEq, hp]
    exact endP_ok hnr
  | next y =>
    have e46 : partD (sNext ++ ([46] ++ y)) [46] = (sNext, [46], y) := partD_app (by decide)
    have pd' : ∀ h : EH, dPart h (sNext ++ ([46] ++ y)) [.str [46]] = some (.tup [.str [110, 101, 120, 116], .str [46], .str y]) := fun h => by rw [show dPart h (sNext ++ ([46] ++ y)) [.str [46]] = _ from pd h]; show some (D.tup [.str (partD (sNext ++ ([46] ++ y)) [46]).1, .str (partD (sNext ++ ([46] ++ y)) [46]).2.1, .str (partD (sNext ++ ([46] ++ y)) [46]).2.2]) = _; rw [e46]; rfl
    simp only [Pl.d, sNext] at hp hnr
    simp only [m_plain_in, Pl.txt, ↓seq_ap, ↓var_ap, ↓c_ap, ↓bin_ap, ↓tst_ap, ↓not_ap, ↓and_ap, ↓or_ap, ↓if_ap, ↓andv_ap, ↓orv_ap, ↓notv_ap, ↓nil_ap, ↓cons_ap, ↓tup_ap, ↓lst_ap, ↓call_ap, ↓callP_ap, ↓callI_ap, ↓perm_ap, ↓nop_ap, ↓smp_ap, ↓sl_ap, ↓chain_ap, ↓isi_ap, ↓lc_ap, ↓lstC_ap, ↓mts_ap, ↓yes_ap, ↓il_ap, ↓it_ap, ↓is_ap, ↓ir1_ap, ↓iz_ap, ↓snil_ap, ↓ret_ap, ↓sif_ap, ↓sexpr_ap, ↓bk_ap, ↓ct_ap, ↓asg_ap, ↓for_ap, ↓par_ap, ↓gname_ap, ↓gnil_ap, ↓gcons_ap, ↓gtup_ap, ↓gsub_ap, bR_ok, bR_ex, rt_some, sq_nx, sq_rt, sq_bk, sq_ct, sq_ex, bS_ok, bS_ex, binK1_ap, binK2_ap, tstK_b, notK_ap, andK_t, andK_f, orK_t, orK_f, ifK_t, ifK_f, andV_t, andV_f, orV_t, orV_f, notV_c, consK1_ap, consK2_ap, tupK_ok, lstK_ok, callK_ap, permK_ap, smP_int, slK1_ap, slK2_ap, slK3_ap, sl_lst, sl_scr, sl_tup, chK1_ap, chK2_ap, chK3_t, chK3_f, chK4_ap, isiK_int, isiK_str, isiK_bl, isiK_non, isiK_tup, isiK_lst, mtsK_str, mtsK2_ap, ilK_lst, ilK_scr, itK_tup, isK_str, izK_l, izK_t, retK_ap, sifK_t, sifK_f, sexprK_ap, asgK_ap, bG_ok, forK_ap, parK_ok, gK_ok, subK1_ok, subK2_ok, add_int, sub_int, mod_int, lt_int, le_int, gt_int, ge_int, eq_int, eq_str, eq_bl, eq_is, eq_si, eq_bs, eq_sb, eq_nn, ne_int, ne_str, ne_bl, isn_ap, isN_int, isN_str, isN_bl, isN_tup, isN_lst, isN_non, ix_lst, ix_tup, ix_scr, len_lst, len_tup, int_int, list_lst, list_tup, tuple_lst, tuple_tup, asB_bl, getD0, getDS, set0, setS, at0, atS, map_some', bind_some', List.length_cons, List.length_nil, List.any_cons, List.any_nil, decide_true, decide_false, and_self, Nat.reduceLeDiff, Nat.reduceAdd, if_true, Int.reduceLT, Int.reduceNeg, Int.reducePow, Int.reduceToNat, Int.reduceLE, Nat.reduceLT, Int.reduceAdd, Int.reduceSub, Bool.not_true, Bool.not_false, Int.reduceEq, bne_self_eq_false, Bool.false_bne, Bool.true_bne, Int.reduceBNe, pd', in_on, List.cons.injEq, Nat.reduceEqDiff, false_and, and_false, List.mem_cons, List.not_mem_nil, or_false, and_true, true_or, or_true, reduceCtorEq, hp]
    exact endP_ok hnr
theorem in_13 {h : EH} {n : Int} : dInA h (.int n) (.tup [.int 1, .int 3]) = some (.bl (decide (n = 1) || decide (n = 3))) := by
  show some (D.bl (false != ((1 : Int) == n || ((3 : Int) == n || false)))) = _
  rw [Bool.false_bne, Bool.or_false]
  congr 2
  have e : ∀ a : Int, (a == n) = decide (n = a) := fun a => by
    by_cases q : n = a
    · subst q; simp
    · have q' : ¬ a = n := fun h => q h.symm
      simp [q, q']
  rw [e 1, e 3]
theorem readV {v : Vl} (h : v.ok = true) : F_read_value [.str v.txt] = some (.ok v.d) := by
  have sp := vtxt_split h
  have hv := callPK_ok (F := F_is_value) (h := []) (isValue_ok h) (go1 v.noRef)
  have ht := callPK_ok (F := F_value_text) (h := []) (vtext h) (go1 v.noRef)
  have hnr : noRef v.d = true := v.noRef
  have lv : v.txt.length ≤ 100 := by
    cases v with
    | pl p => have := ptxt_len (p := p) h; show p.txt.length ≤ 100; omega
    | plus p m =>
      have h' := Bool.and_eq_true_iff.mp (show (p.ok && isCon m) = true from h)
      have := ptxt_len h'.1
      have := tail_len h'.2
      show (p.txt ++ pTail m).length ≤ 100
      rw [List.length_append]
      omega
  have ds : ∀ h : EH, dSplit h v.txt [.str [32]] = some (.lst ((splitD v.txt [32]).map .str)) := fun h => if_pos ⟨by simp, by omega⟩
  show endP (m_read_value [some (.str v.txt), none, none, none] []) = _
  cases v with
  | pl p =>
    have hp := callPK_ok (F := F_plain_in) (h := []) (plainIn (p := p) h) rfl
    have ds' : ∀ h : EH, dSplit h (Vl.pl p).txt [.str [32]] = some (.lst [.str p.txt]) := fun h => by rw [ds h, sp]; rfl
    have nn : isNon p.d = false := by cases p <;> rfl
    simp only [Vl.d] at hv ht hnr
    simp only [m_read_value, ↓seq_ap, ↓var_ap, ↓c_ap, ↓bin_ap, ↓tst_ap, ↓not_ap, ↓and_ap, ↓or_ap, ↓if_ap, ↓andv_ap, ↓orv_ap, ↓notv_ap, ↓nil_ap, ↓cons_ap, ↓tup_ap, ↓lst_ap, ↓call_ap, ↓callP_ap, ↓callI_ap, ↓perm_ap, ↓nop_ap, ↓smp_ap, ↓sl_ap, ↓chain_ap, ↓isi_ap, ↓lc_ap, ↓lstC_ap, ↓mts_ap, ↓yes_ap, ↓il_ap, ↓it_ap, ↓is_ap, ↓ir1_ap, ↓iz_ap, ↓snil_ap, ↓ret_ap, ↓sif_ap, ↓sexpr_ap, ↓bk_ap, ↓ct_ap, ↓asg_ap, ↓for_ap, ↓par_ap, ↓gname_ap, ↓gnil_ap, ↓gcons_ap, ↓gtup_ap, ↓gsub_ap, bR_ok, bR_ex, rt_some, sq_nx, sq_rt, sq_bk, sq_ct, sq_ex, bS_ok, bS_ex, binK1_ap, binK2_ap, tstK_b, notK_ap, andK_t, andK_f, orK_t, orK_f, ifK_t, ifK_f, andV_t, andV_f, orV_t, orV_f, notV_c, consK1_ap, consK2_ap, tupK_ok, lstK_ok, callK_ap, permK_ap, smP_int, slK1_ap, slK2_ap, slK3_ap, sl_lst, sl_scr, sl_tup, chK1_ap, chK2_ap, chK3_t, chK3_f, chK4_ap, isiK_int, isiK_str, isiK_bl, isiK_non, isiK_tup, isiK_lst, mtsK_str, mtsK2_ap, ilK_lst, ilK_scr, itK_tup, isK_str, izK_l, izK_t, retK_ap, sifK_t, sifK_f, sexprK_ap, asgK_ap, bG_ok, forK_ap, parK_ok, gK_ok, subK1_ok, subK2_ok, add_int, sub_int, mod_int, lt_int, le_int, gt_int, ge_int, eq_int, eq_str, eq_bl, eq_is, eq_si, eq_bs, eq_sb, eq_nn, ne_int, ne_str, ne_bl, isn_ap, isN_int, isN_str, isN_bl, isN_tup, isN_lst, isN_non, ix_lst, ix_tup, ix_scr, len_lst, len_tup, int_int, list_lst, list_tup, tuple_lst, tuple_tup, asB_bl, getD0, getDS, set0, setS, at0, atS, map_some', bind_some', List.length_cons, List.length_nil, List.any_cons, List.any_nil, decide_true, decide_false, and_self, Nat.reduceLeDiff, Nat.reduceAdd, if_true, Int.reduceLT, Int.reduceNeg, Int.reducePow, Int.reduceToNat, Int.reduceLE, Nat.reduceLT, Int.reduceAdd, Int.reduceSub, Bool.not_true, Bool.not_false, Int.reduceEq, bne_self_eq_false, Bool.false_bne, Bool.true_bne, Int.reduceBNe, isa, Bool.or_false, ds', len1, in_13, Bool.true_or, atl0, hp, nn, hv, ht]
    exact endP_ok hnr
  | plus p m =>
    have h' := Bool.and_eq_true_iff.mp (show (p.ok && isCon m) = true from h)
    have hp := callPK_ok (F := F_plain_in) (h := []) (plainIn h'.1) rfl
    have nn : isNon p.d = false := by cases p <;> rfl
    simp only [Vl.d, sPlus] at hv ht hnr
    by_cases q : m < 0
    · have cn : isCon (0 - m) = true := by
        have := h'.2
        unfold isCon at this ⊢
        simp only [Bool.and_eq_true, decide_eq_true_eq] at this ⊢
        omega
      have hi := callPK_ok (F := fun ds => F_integer_in (ds ++ [D.int 31])) (ds := [.str (decI (0 - m))]) (h := []) (intIn cn) rfl
      have ds' : ∀ h : EH, dSplit h (Vl.plus p m).txt [.str [32]] = some (.lst [.str p.txt, .str [45], .str (decI (0 - m))]) := fun h => by rw [ds h, sp]; show some (D.lst ((if m < 0 then [p.txt, [45], decI (0 - m)] else [p.txt, [43], decI m]).map .str)) = _; rw [if_pos q]; rfl
      have em : 0 - (0 - m) = m := by omega
      simp only [m_read_value, ↓seq_ap, ↓var_ap, ↓c_ap, ↓bin_ap, ↓tst_ap, ↓not_ap, ↓and_ap, ↓or_ap, ↓if_ap, ↓andv_ap, ↓orv_ap, ↓notv_ap, ↓nil_ap, ↓cons_ap, ↓tup_ap, ↓lst_ap, ↓call_ap, ↓callP_ap, ↓callI_ap, ↓perm_ap, ↓nop_ap, ↓smp_ap, ↓sl_ap, ↓chain_ap, ↓isi_ap, ↓lc_ap, ↓lstC_ap, ↓mts_ap, ↓yes_ap, ↓il_ap, ↓it_ap, ↓is_ap, ↓ir1_ap, ↓iz_ap, ↓snil_ap, ↓ret_ap, ↓sif_ap, ↓sexpr_ap, ↓bk_ap, ↓ct_ap, ↓asg_ap, ↓for_ap, ↓par_ap, ↓gname_ap, ↓gnil_ap, ↓gcons_ap, ↓gtup_ap, ↓gsub_ap, bR_ok, bR_ex, rt_some, sq_nx, sq_rt, sq_bk, sq_ct, sq_ex, bS_ok, bS_ex, binK1_ap, binK2_ap, tstK_b, notK_ap, andK_t, andK_f, orK_t, orK_f, ifK_t, ifK_f, andV_t, andV_f, orV_t, orV_f, notV_c, consK1_ap, consK2_ap, tupK_ok, lstK_ok, callK_ap, permK_ap, smP_int, slK1_ap, slK2_ap, slK3_ap, sl_lst, sl_scr, sl_tup, chK1_ap, chK2_ap, chK3_t, chK3_f, chK4_ap, isiK_int, isiK_str, isiK_bl, isiK_non, isiK_tup, isiK_lst, mtsK_str, mtsK2_ap, ilK_lst, ilK_scr, itK_tup, isK_str, izK_l, izK_t, retK_ap, sifK_t, sifK_f, sexprK_ap, asgK_ap, bG_ok, forK_ap, parK_ok, gK_ok, subK1_ok, subK2_ok, add_int, sub_int, mod_int, lt_int, le_int, gt_int, ge_int, eq_int, eq_str, eq_bl, eq_is, eq_si, eq_bs, eq_sb, eq_nn, ne_int, ne_str, ne_bl, isn_ap, isN_int, isN_str, isN_bl, isN_tup, isN_lst, isN_non, ix_lst, ix_tup, ix_scr, len_lst, len_tup, int_int, list_lst, list_tup, tuple_lst, tuple_tup, asB_bl, getD0, getDS, set0, setS, at0, atS, map_some', bind_some', List.length_cons, List.length_nil, List.any_cons, List.any_nil, decide_true, decide_false, and_self, Nat.reduceLeDiff, Nat.reduceAdd, if_true, Int.reduceLT, Int.reduceNeg, Int.reducePow, Int.reduceToNat, Int.reduceLE, Nat.reduceLT, Int.reduceAdd, Int.reduceSub, Bool.not_true, Bool.not_false, Int.reduceEq, bne_self_eq_false, Bool.false_bne, Bool.true_bne, Int.reduceBNe, isa, Bool.or_false, ds', len3, in_13, Bool.or_true, atl0, atl1, atl2, hp, nn, hi, em, hv, ht]
      exact endP_ok hnr
    · have hi := callPK_ok (F := fun ds => F_integer_in (ds ++ [D.int 31])) (ds := [.str (decI m)]) (h := []) (intIn h'.2) rfl
      have ds' : ∀ h : EH, dSplit h (Vl.plus p m).txt [.str [32]] = some (.lst [.str p.txt, .str [43], .str (decI m)]) := fun h => by rw [ds h, sp]; show some (D.lst ((if m < 0 then [p.txt, [45], decI (0 - m)] else [p.txt, [43], decI m]).map .str)) = _; rw [if_neg q]; rfl
      simp only [m_read_value, ↓seq_ap, ↓var_ap, ↓c_ap, ↓bin_ap, ↓tst_ap, ↓not_ap, ↓and_ap, ↓or_ap, ↓if_ap, ↓andv_ap, ↓orv_ap, ↓notv_ap, ↓nil_ap, ↓cons_ap, ↓tup_ap, ↓lst_ap, ↓call_ap, ↓callP_ap, ↓callI_ap, ↓perm_ap, ↓nop_ap, ↓smp_ap, ↓sl_ap, ↓chain_ap, ↓isi_ap, ↓lc_ap, ↓lstC_ap, ↓mts_ap, ↓yes_ap, ↓il_ap, ↓it_ap, ↓is_ap, ↓ir1_ap, ↓iz_ap, ↓snil_ap, ↓ret_ap, ↓sif_ap, ↓sexpr_ap, ↓bk_ap, ↓ct_ap, ↓asg_ap, ↓for_ap, ↓par_ap, ↓gname_ap, ↓gnil_ap, ↓gcons_ap, ↓gtup_ap, ↓gsub_ap, bR_ok, bR_ex, rt_some, sq_nx, sq_rt, sq_bk, sq_ct, sq_ex, bS_ok, bS_ex, binK1_ap, binK2_ap, tstK_b, notK_ap, andK_t, andK_f, orK_t, orK_f, ifK_t, ifK_f, andV_t, andV_f, orV_t, orV_f, notV_c, consK1_ap, consK2_ap, tupK_ok, lstK_ok, callK_ap, permK_ap, smP_int, slK1_ap, slK2_ap, slK3_ap, sl_lst, sl_scr, sl_tup, chK1_ap, chK2_ap, chK3_t, chK3_f, chK4_ap, isiK_int, isiK_str, isiK_bl, isiK_non, isiK_tup, isiK_lst, mtsK_str, mtsK2_ap, ilK_lst, ilK_scr, itK_tup, isK_str, izK_l, izK_t, retK_ap, sifK_t, sifK_f, sexprK_ap, asgK_ap, bG_ok, forK_ap, parK_ok, gK_ok, subK1_ok, subK2_ok, add_int, sub_int, mod_int, lt_int, le_int, gt_int, ge_int, eq_int, eq_str, eq_bl, eq_is, eq_si, eq_bs, eq_sb, eq_nn, ne_int, ne_str, ne_bl, isn_ap, isN_int, isN_str, isN_bl, isN_tup, isN_lst, isN_non, ix_lst, ix_tup, ix_scr, len_lst, len_tup, int_int, list_lst, list_tup, tuple_lst, tuple_tup, asB_bl, getD0, getDS, set0, setS, at0, atS, map_some', bind_some', List.length_cons, List.length_nil, List.any_cons, List.any_nil, decide_true, decide_false, and_self, Nat.reduceLeDiff, Nat.reduceAdd, if_true, Int.reduceLT, Int.reduceNeg, Int.reducePow, Int.reduceToNat, Int.reduceLE, Nat.reduceLT, Int.reduceAdd, Int.reduceSub, Bool.not_true, Bool.not_false, Int.reduceEq, bne_self_eq_false, Bool.false_bne, Bool.true_bne, Int.reduceBNe, isa, Bool.or_false, ds', len3, in_13, Bool.or_true, atl0, atl1, atl2, hp, nn, hi, hv, ht, List.cons.injEq, Nat.reduceEqDiff, false_and, and_false, List.mem_cons, List.not_mem_nil, or_false, and_true, true_or, or_true, reduceCtorEq]
      exact endP_ok hnr
/-! ### far -/
theorem p10_9 {h : EH} : dPow h (.int 10) (.int 9) = some (.int 1000000000) := pow_int ⟨by decide, by decide, by decide⟩
theorem p10_8 {h : EH} : dPow h (.int 10) (.int 8) = some (.int 100000000) := pow_int ⟨by decide, by decide, by decide⟩
theorem con_of {i : Int} (h : -1000000000000000000000000000000 ≤ i ∧ i ≤ 1000000000000000000000000000000) : isCon i = true := by
  unfold isCon
  simp only [Bool.and_eq_true, decide_eq_true_eq]
  omega
theorem far_ok {k : Cell} (hk : BagI k) (t : EH) : ∃ (i : Int) (k' : Cell), F__law_far [.ref 0] (k :: t) = some (.ok (.int i), k' :: t) ∧ isCon i = true ∧ BagI k' := by
  obtain ⟨n, k1, e1, n0, n1, hk1⟩ := pull_ok hk (n := 1000000000) (by decide) (by decide) t
  obtain ⟨m, k2, e2, m0, m1, hk2⟩ := pull_ok hk1 (n := 11) (by decide) (by decide) t
  obtain ⟨d, k3, e3, hd, hk3⟩ := any_lst hk2 (ds := [.int 0, .int 1, .int (-1), .int 2, .int (5 - m), .int (n - 100000000), .int (1000000000000000000000000000000 - n), .int (n - 1000000000000000000000000000000)]) (by simp) (by simp) (by simp [noRef]) t
  have key : ∃ i : Int, d = .int i ∧ isCon i = true := by
    simp only [List.mem_cons, List.not_mem_nil, or_false] at hd
    rcases hd with rfl | rfl | rfl | rfl | rfl | rfl | rfl | rfl <;> exact ⟨_, rfl, con_of (by omega)⟩
  obtain ⟨i, rfl, hi⟩ := key
  refine ⟨i, k3, ?_, hi, hk3⟩
  have e1' : F__law_pull [.ref 0, .int 1000000000] (k :: t) = some (.ok (.int n), k1 :: t) := e1
  have e2' : F__law_pull [.ref 0, .int 11] (k1 :: t) = some (.ok (.int m), k2 :: t) := e2
  have e3' : F__law_any [.ref 0, .lst [.int 0, .int 1, .int (-1), .int 2, .int (5 - m), .int (n - 100000000), .int (1000000000000000000000000000000 - n), .int (n - 1000000000000000000000000000000)]] (k2 :: t) = some (.ok (.int i), k3 :: t) := e3
  show endI _ (m__law_far [some (.ref 0), none] (k :: t)) = _
  simp only [m__law_far, ↓seq_ap, ↓var_ap, ↓c_ap, ↓bin_ap, ↓tst_ap, ↓not_ap, ↓and_ap, ↓or_ap, ↓if_ap, ↓andv_ap, ↓orv_ap, ↓notv_ap, ↓nil_ap, ↓cons_ap, ↓tup_ap, ↓lst_ap, ↓call_ap, ↓callP_ap, ↓callI_ap, ↓perm_ap, ↓nop_ap, ↓smp_ap, ↓sl_ap, ↓chain_ap, ↓isi_ap, ↓lc_ap, ↓lstC_ap, ↓mts_ap, ↓yes_ap, ↓il_ap, ↓it_ap, ↓is_ap, ↓ir1_ap, ↓iz_ap, ↓snil_ap, ↓ret_ap, ↓sif_ap, ↓sexpr_ap, ↓bk_ap, ↓ct_ap, ↓asg_ap, ↓for_ap, ↓par_ap, ↓gname_ap, ↓gnil_ap, ↓gcons_ap, ↓gtup_ap, ↓gsub_ap, bR_ok, bR_ex, rt_some, sq_nx, sq_rt, sq_bk, sq_ct, sq_ex, bS_ok, bS_ex, binK1_ap, binK2_ap, tstK_b, notK_ap, andK_t, andK_f, orK_t, orK_f, ifK_t, ifK_f, andV_t, andV_f, orV_t, orV_f, notV_c, consK1_ap, consK2_ap, tupK_ok, lstK_ok, callK_ap, permK_ap, smP_int, slK1_ap, slK2_ap, slK3_ap, sl_lst, sl_scr, sl_tup, chK1_ap, chK2_ap, chK3_t, chK3_f, chK4_ap, isiK_int, isiK_str, isiK_bl, isiK_non, isiK_tup, isiK_lst, mtsK_str, mtsK2_ap, ilK_lst, ilK_scr, itK_tup, isK_str, izK_l, izK_t, retK_ap, sifK_t, sifK_f, sexprK_ap, asgK_ap, bG_ok, forK_ap, parK_ok, gK_ok, subK1_ok, subK2_ok, add_int, sub_int, mod_int, lt_int, le_int, gt_int, ge_int, eq_int, eq_str, eq_bl, eq_is, eq_si, eq_bs, eq_sb, eq_nn, ne_int, ne_str, ne_bl, isn_ap, isN_int, isN_str, isN_bl, isN_tup, isN_lst, isN_non, ix_lst, ix_tup, ix_scr, len_lst, len_tup, int_int, list_lst, list_tup, tuple_lst, tuple_tup, asB_bl, getD0, getDS, set0, setS, at0, atS, map_some', bind_some', List.length_cons, List.length_nil, List.any_cons, List.any_nil, decide_true, decide_false, and_self, Nat.reduceLeDiff, Nat.reduceAdd, if_true, Int.reduceLT, Int.reduceNeg, Int.reducePow, Int.reduceToNat, Int.reduceLE, Nat.reduceLT, Int.reduceAdd, Int.reduceSub, Bool.not_true, Bool.not_false, Int.reduceEq, bne_self_eq_false, Bool.false_bne, Bool.true_bne, Int.reduceBNe, p10_9, p10_8, p10_30, e1', e2', e3']
  exact endI_ok rfl rfl
end PV

namespace PV
open PySem PD
/-! ## the reader of conditions -/
def rdF (s : List Nat) (k : Nat) : List (Str × D) := [("source", .str s), ("spot", .int k)]
def rd (s : List Nat) (k : Nat) : Cell := .obj "ConditionReader" (rdF s k)
section
variable {t : EH} {s : List Nat} {k : Nat} {ε : Ev}
theorem last_at {x : Cell} : (t ++ [x])[t.length]? = some x := by
  rw [List.getElem?_append_right (Nat.le_refl _), Nat.sub_self]; rfl
theorem last_set {x y : Cell} : (t ++ [x]).set t.length y = t ++ [y] := by
  rw [List.set_append_right _ _ (Nat.le_refl _), Nat.sub_self]; rfl
theorem ins_rd : insD (t ++ [rd s k]) (.ref t.length) = some (Str.ofString "ConditionReader", rdF s k) := by
  unfold insD
  simp only [last_at, rd]
theorem f_src : dFld ["ConditionReader"] "source" (t ++ [rd s k]) (.ref t.length) = some (.str s) := by
  unfold dFld
  rw [ins_rd]
  kernel_rfl
theorem f_spot : dFld ["ConditionReader"] "spot" (t ++ [rd s k]) (.ref t.length) = some (.int k) := by
  unfold dFld
  rw [ins_rd]
  kernel_rfl
theorem p_spot (j : Nat) : putO ["ConditionReader"] "spot" (t ++ [rd s k]) (.ref t.length) (.int j) = some (t ++ [rd s j]) := by
  unfold putO
  simp only [last_at, rd]
  rw [if_pos ⟨List.mem_singleton.mpr rfl, (by decide : (2 : Nat) < 1000)⟩]
  rw [last_set]
  kernel_rfl
theorem mei_rd {m : Str} {F : IF} {a : M (List D)} (l : (rdF s k).lookup m = none) : meiK "ConditionReader" m F a ε (.ref t.length) (t ++ [rd s k]) = bR (a ε (t ++ [rd s k])) (meiK2 F (.ref t.length)) := meiK_ok ins_rd l
theorem faug_rd {v : M D} {i : Int} {j : Nat} (e : (k : Int) + i = (j : Int)) (hv : v ε (t ++ [rd s k]) = some (.ok (.int i), t ++ [rd s k])) : faugK ["ConditionReader"] "spot" v ε (.ref t.length) (t ++ [rd s k]) = some (.nx ε, t ++ [rd s j]) := by
  rw [faugK_ok f_spot, hv, bS_ok, faugK2_int, e, p_spot]; rfl
theorem lst1 {x : Cell} : (t ++ [x]).length = t.length + 1 := by simp
end
/-! ### comes -/
theorem stw3_rd {h : EH} {s w : List Nat} {k : Nat} (hk : k ≤ s.length) : dStw3 h s [.str w, .int k] = some (.bl (decide (w <+: s.drop k))) := by
  show some (D.bl (Txt.startswith3 (toS s) (toS w) k)) = _
  rw [stw3_pre hk]
theorem comes_ok {t : EH} {s w : List Nat} {k : Nat} (hk : k ≤ s.length) (hw : w.length ≤ 16777216) : F_ConditionReader_comes [.ref t.length, .str w] (t ++ [rd s k]) = some (.ok (.bl (decide (w <+: s.drop k))), t ++ [rd s (if w <+: s.drop k then k + w.length else k)]) := by
  show endI (t ++ [rd s k]).length (m_ConditionReader_comes [some (.ref t.length), some (.str w)] (t ++ [rd s k])) = _
  by_cases q : w <+: s.drop k
  · have a := faug_rd (t := t) (s := s) (k := k) (v := mCall dLen (mCons (mVar 1) mNil)) (ε := [some (.ref t.length), some (.str w)]) (i := w.length) (j := k + w.length) (by omega) (by simp only [↓seq_ap, ↓var_ap, ↓c_ap, ↓bin_ap, ↓tst_ap, ↓not_ap, ↓and_ap, ↓or_ap, ↓if_ap, ↓andv_ap, ↓orv_ap, ↓notv_ap, ↓nil_ap, ↓cons_ap, ↓tup_ap, ↓lst_ap, ↓call_ap, ↓callP_ap, ↓callI_ap, ↓perm_ap, ↓nop_ap, ↓smp_ap, ↓sl_ap, ↓chain_ap, ↓isi_ap, ↓lc_ap, ↓lstC_ap, ↓mts_ap, ↓yes_ap, ↓il_ap, ↓it_ap, ↓is_ap, ↓ir1_ap, ↓iz_ap, ↓snil_ap, ↓ret_ap, ↓sif_ap, ↓sexpr_ap, ↓bk_ap, ↓ct_ap, ↓asg_ap, ↓for_ap, ↓par_ap, ↓gname_ap, ↓gnil_ap, ↓gcons_ap, ↓gtup_ap, ↓gsub_ap, bR_ok, bR_ex, rt_some, sq_nx, sq_rt, sq_bk, sq_ct, sq_ex, bS_ok, bS_ex, binK1_ap, binK2_ap, tstK_b, notK_ap, andK_t, andK_f, orK_t, orK_f, ifK_t, ifK_f, andV_t, andV_f, orV_t, orV_f, notV_c, consK1_ap, consK2_ap, tupK_ok, lstK_ok, callK_ap, permK_ap, smP_int, slK1_ap, slK2_ap, slK3_ap, sl_lst, sl_scr, sl_tup, chK1_ap, chK2_ap, chK3_t, chK3_f, chK4_ap, isiK_int, isiK_str, isiK_bl, isiK_non, isiK_tup, isiK_lst, mtsK_str, mtsK2_ap, ilK_lst, ilK_scr, itK_tup, isK_str, izK_l, izK_t, retK_ap, sifK_t, sifK_f, sexprK_ap, asgK_ap, bG_ok, forK_ap, parK_ok, gK_ok, subK1_ok, subK2_ok, add_int, sub_int, mod_int, lt_int, le_int, gt_int, ge_int, eq_int, eq_str, eq_bl, eq_is, eq_si, eq_bs, eq_sb, eq_nn, ne_int, ne_str, ne_bl, isn_ap, isN_int, isN_str, isN_bl, isN_tup, isN_lst, isN_non, ix_lst, ix_tup, ix_scr, len_lst, len_tup, int_int, list_lst, list_tup, tuple_lst, tuple_tup, asB_bl, getD0, getDS, set0, setS, at0, atS, map_some', bind_some', List.length_cons, List.length_nil, List.any_cons, List.any_nil, ↓fld_ap, ↓mei_ap, ↓faug_ap, ↓c1_ap, ↓ir2_ap, ↓sfld_ap, fldK_ap, meiK2_ap, c1K_ap, sfldK_ap, sfldK2_ap, len_str hw])
    simp only [m_ConditionReader_comes, ↓seq_ap, ↓var_ap, ↓c_ap, ↓bin_ap, ↓tst_ap, ↓not_ap, ↓and_ap, ↓or_ap, ↓if_ap, ↓andv_ap, ↓orv_ap, ↓notv_ap, ↓nil_ap, ↓cons_ap, ↓tup_ap, ↓lst_ap, ↓call_ap, ↓callP_ap, ↓callI_ap, ↓perm_ap, ↓nop_ap, ↓smp_ap, ↓sl_ap, ↓chain_ap, ↓isi_ap, ↓lc_ap, ↓lstC_ap, ↓mts_ap, ↓yes_ap, ↓il_ap, ↓it_ap, ↓is_ap, ↓ir1_ap, ↓iz_ap, ↓snil_ap, ↓ret_ap, ↓sif_ap, ↓sexpr_ap, ↓bk_ap, ↓ct_ap, ↓asg_ap, ↓for_ap, ↓par_ap, ↓gname_ap, ↓gnil_ap, ↓gcons_ap, ↓gtup_ap, ↓gsub_ap, bR_ok, bR_ex, rt_some, sq_nx, sq_rt, sq_bk, sq_ct, sq_ex, bS_ok, bS_ex, binK1_ap, binK2_ap, tstK_b, notK_ap, andK_t, andK_f, orK_t, orK_f, ifK_t, ifK_f, andV_t, andV_f, orV_t, orV_f, notV_c, consK1_ap, consK2_ap, tupK_ok, lstK_ok, callK_ap, permK_ap, smP_int, slK1_ap, slK2_ap, slK3_ap, sl_lst, sl_scr, sl_tup, chK1_ap, chK2_ap, chK3_t, chK3_f, chK4_ap, isiK_int, isiK_str, isiK_bl, isiK_non, isiK_tup, isiK_lst, mtsK_str, mtsK2_ap, ilK_lst, ilK_scr, itK_tup, isK_str, izK_l, izK_t, retK_ap, sifK_t, sifK_f, sexprK_ap, asgK_ap, bG_ok, forK_ap, parK_ok, gK_ok, subK1_ok, subK2_ok, add_int, sub_int, mod_int, lt_int, le_int, gt_int, ge_int, eq_int, eq_str, eq_bl, eq_is, eq_si, eq_bs, eq_sb, eq_nn, ne_int, ne_str, ne_bl, isn_ap, isN_int, isN_str, isN_bl, isN_tup, isN_lst, isN_non, ix_lst, ix_tup, ix_scr, len_lst, len_tup, int_int, list_lst, list_tup, tuple_lst, tuple_tup, asB_bl, getD0, getDS, set0, setS, at0, atS, map_some', bind_some', List.length_cons, List.length_nil, List.any_cons, List.any_nil, ↓fld_ap, ↓mei_ap, ↓faug_ap, ↓c1_ap, ↓ir2_ap, ↓sfld_ap, fldK_ap, meiK2_ap, c1K_ap, sfldK_ap, sfldK2_ap, decide_true, decide_false, and_self, Nat.reduceLeDiff, Nat.reduceAdd, if_true, Int.reduceLT, Int.reduceNeg, Int.reducePow, Int.reduceToNat, Int.reduceLE, Nat.reduceLT, Int.reduceAdd, Int.reduceSub, Bool.not_true, Bool.not_false, Int.reduceEq, bne_self_eq_false, Bool.false_bne, Bool.true_bne, Int.reduceBNe, f_src, f_spot, stw3_rd hk, q, a]
    exact endI_ok (by rw [lst1, lst1]) rfl
  · simp only [m_ConditionReader_comes, ↓seq_ap, ↓var_ap, ↓c_ap, ↓bin_ap, ↓tst_ap, ↓not_ap, ↓and_ap, ↓or_ap, ↓if_ap, ↓andv_ap, ↓orv_ap, ↓notv_ap, ↓nil_ap, ↓cons_ap, ↓tup_ap, ↓lst_ap, ↓call_ap, ↓callP_ap, ↓callI_ap, ↓perm_ap, ↓nop_ap, ↓smp_ap, ↓sl_ap, ↓chain_ap, ↓isi_ap, ↓lc_ap, ↓lstC_ap, ↓mts_ap, ↓yes_ap, ↓il_ap, ↓it_ap, ↓is_ap, ↓ir1_ap, ↓iz_ap, ↓snil_ap, ↓ret_ap, ↓sif_ap, ↓sexpr_ap, ↓bk_ap, ↓ct_ap, ↓asg_ap, ↓for_ap, ↓par_ap, ↓gname_ap, ↓gnil_ap, ↓gcons_ap, ↓gtup_ap, ↓gsub_ap, bR_ok, bR_ex, rt_some, sq_nx, sq_rt, sq_bk, sq_ct, sq_ex, bS_ok, bS_ex, binK1_ap, binK2_ap, tstK_b, notK_ap, andK_t, andK_f, orK_t, orK_f, ifK_t, ifK_f, andV_t, andV_f, orV_t, orV_f, notV_c, consK1_ap, consK2_ap, tupK_ok, lstK_ok, callK_ap, permK_ap, smP_int, slK1_ap, slK2_ap, slK3_ap, sl_lst, sl_scr, sl_tup, chK1_ap, chK2_ap, chK3_t, chK3_f, chK4_ap, isiK_int, isiK_str, isiK_bl, isiK_non, isiK_tup, isiK_lst, mtsK_str, mtsK2_ap, ilK_lst, ilK_scr, itK_tup, isK_str, izK_l, izK_t, retK_ap, sifK_t, sifK_f, sexprK_ap, asgK_ap, bG_ok, forK_ap, parK_ok, gK_ok, subK1_ok, subK2_ok, add_int, sub_int, mod_int, lt_int, le_int, gt_int, ge_int, eq_int, eq_str, eq_bl, eq_is, eq_si, eq_bs, eq_sb, eq_nn, ne_int, ne_str, ne_bl, isn_ap, isN_int, isN_str, isN_bl, isN_tup, isN_lst, isN_non, ix_lst, ix_tup, ix_scr, len_lst, len_tup, int_int, list_lst, list_tup, tuple_lst, tuple_tup, asB_bl, getD0, getDS, set0, setS, at0, atS, map_some', bind_some', List.length_cons, List.length_nil, List.any_cons, List.any_nil, ↓fld_ap, ↓mei_ap, ↓faug_ap, ↓c1_ap, ↓ir2_ap, ↓sfld_ap, fldK_ap, meiK2_ap, c1K_ap, sfldK_ap, sfldK2_ap, decide_true, decide_false, and_self, Nat.reduceLeDiff, Nat.reduceAdd, if_true, Int.reduceLT, Int.reduceNeg, Int.reducePow, Int.reduceToNat, Int.reduceLE, Nat.reduceLT, Int.reduceAdd, Int.reduceSub, Bool.not_true, Bool.not_false, Int.reduceEq, bne_self_eq_false, Bool.false_bne, Bool.true_bne, Int.reduceBNe, f_src, f_spot, stw3_rd hk, q, if_false]
    exact endI_ok rfl rfl
/-! ### signs -/
def stops : List Nat := [32, 40, 41]
def Stop (r : List Nat) : Prop := ∀ c r', r = c :: r' → c ∈ stops
theorem nin_stop {h : EH} {c : Nat} : dNinA h (.str [c]) (.str [32, 40, 41]) = some (.bl (!decide (c ∈ stops))) := by
  show (some (D.bl (true != decide (c ∈ [32, 40, 41])))).or _ = _
  rw [Bool.true_bne]; rfl
theorem drop_at {s : List Nat} {k : Nat} {c : Nat} {r : List Nat} (e : s.drop k = c :: r) : k < s.length ∧ s[k]? = some c ∧ s.drop (k + 1) = r := by
  have hk : k < s.length := by
    rcases Nat.lt_or_ge k s.length with h | h
    · exact h
    · rw [List.drop_eq_nil_of_le h] at e; cases e
  refine ⟨hk, ?_, ?_⟩
  · rw [List.drop_eq_getElem_cons hk] at e
    rw [List.getElem?_eq_getElem hk]
    injection e with e1 e2
    rw [e1]
  · rw [List.drop_eq_getElem_cons hk] at e
    injection e
theorem drop_app {s z r : List Nat} {k : Nat} (e : s.drop k = z ++ r) : s.drop (k + z.length) = r := by
  rw [← List.drop_drop, e, List.drop_append_of_le_length (Nat.le_refl _), List.drop_length]; rfl
theorem drop_le {s z r : List Nat} {k : Nat} (hk : k ≤ s.length) (e : s.drop k = z ++ r) : k + z.length ≤ s.length := by
  have := congrArg List.length e
  rw [List.length_drop, List.length_append] at this
  omega
theorem sg_loop {t : EH} {s : List Nat} (hs : s.length ≤ 16777216) {b : D} {r : List Nat} (hr : Stop r) : ∀ (z : List Nat) (k n : Nat), k ≤ s.length → z.length < n → s.drop k = z ++ r → (∀ c ∈ z, c ∉ stops) →
    whL mt_ConditionReader_signs_0 (msFAug ["ConditionReader"] "spot" (mVar 0) (mC (.int 1))) n [some (.ref t.length), some b] (t ++ [rd s k]) = some (.nx [some (.ref t.length), some b], t ++ [rd s (k + z.length)])
  | [], k, n, hk, hn, e, hz => by
    obtain ⟨n, rfl⟩ : ∃ m, n = m + 1 := ⟨n - 1, by omega⟩
    refine wh_stop ?_
    cases r with
    | nil =>
      have hk2 : ¬ (k : Int) < (s.length : Int) := by
        have := congrArg List.length e
        simp at this
        omega
      simp only [mt_ConditionReader_signs_0, ↓seq_ap, ↓var_ap, ↓c_ap, ↓bin_ap, ↓tst_ap, ↓not_ap, ↓and_ap, ↓or_ap, ↓if_ap, ↓andv_ap, ↓orv_ap, ↓notv_ap, ↓nil_ap, ↓cons_ap, ↓tup_ap, ↓lst_ap, ↓call_ap, ↓callP_ap, ↓callI_ap, ↓perm_ap, ↓nop_ap, ↓smp_ap, ↓sl_ap, ↓chain_ap, ↓isi_ap, ↓lc_ap, ↓lstC_ap, ↓mts_ap, ↓yes_ap, ↓il_ap, ↓it_ap, ↓is_ap, ↓ir1_ap, ↓iz_ap, ↓snil_ap, ↓ret_ap, ↓sif_ap, ↓sexpr_ap, ↓bk_ap, ↓ct_ap, ↓asg_ap, ↓for_ap, ↓par_ap, ↓gname_ap, ↓gnil_ap, ↓gcons_ap, ↓gtup_ap, ↓gsub_ap, bR_ok, bR_ex, rt_some, sq_nx, sq_rt, sq_bk, sq_ct, sq_ex, bS_ok, bS_ex, binK1_ap, binK2_ap, tstK_b, notK_ap, andK_t, andK_f, orK_t, orK_f, ifK_t, ifK_f, andV_t, andV_f, orV_t, orV_f, notV_c, consK1_ap, consK2_ap, tupK_ok, lstK_ok, callK_ap, permK_ap, smP_int, slK1_ap, slK2_ap, slK3_ap, sl_lst, sl_scr, sl_tup, chK1_ap, chK2_ap, chK3_t, chK3_f, chK4_ap, isiK_int, isiK_str, isiK_bl, isiK_non, isiK_tup, isiK_lst, mtsK_str, mtsK2_ap, ilK_lst, ilK_scr, itK_tup, isK_str, izK_l, izK_t, retK_ap, sifK_t, sifK_f, sexprK_ap, asgK_ap, bG_ok, forK_ap, parK_ok, gK_ok, subK1_ok, subK2_ok, add_int, sub_int, mod_int, lt_int, le_int, gt_int, ge_int, eq_int, eq_str, eq_bl, eq_is, eq_si, eq_bs, eq_sb, eq_nn, ne_int, ne_str, ne_bl, isn_ap, isN_int, isN_str, isN_bl, isN_tup, isN_lst, isN_non, ix_lst, ix_tup, ix_scr, len_lst, len_tup, int_int, list_lst, list_tup, tuple_lst, tuple_tup, asB_bl, getD0, getDS, set0, setS, at0, atS, map_some', bind_some', List.length_cons, List.length_nil, List.any_cons, List.any_nil, ↓fld_ap, ↓mei_ap, ↓faug_ap, ↓c1_ap, ↓ir2_ap, ↓sfld_ap, fldK_ap, meiK2_ap, c1K_ap, sfldK_ap, sfldK2_ap, decide_true, decide_false, and_self, Nat.reduceLeDiff, Nat.reduceAdd, if_true, Int.reduceLT, Int.reduceNeg, Int.reducePow, Int.reduceToNat, Int.reduceLE, Nat.reduceLT, Int.reduceAdd, Int.reduceSub, Bool.not_true, Bool.not_false, Int.reduceEq, bne_self_eq_false, Bool.false_bne, Bool.true_bne, Int.reduceBNe, f_src, f_spot, len_str hs, hk2]
      rfl
    | cons c r =>
      obtain ⟨h1, h2, h3⟩ := drop_at (show s.drop k = c :: r from e)
      have hk2 : (k : Int) < (s.length : Int) := by omega
      have hc : c ∈ stops := hr c r rfl
      simp only [mt_ConditionReader_signs_0, ↓seq_ap, ↓var_ap, ↓c_ap, ↓bin_ap, ↓tst_ap, ↓not_ap, ↓and_ap, ↓or_ap, ↓if_ap, ↓andv_ap, ↓orv_ap, ↓notv_ap, ↓nil_ap, ↓cons_ap, ↓tup_ap, ↓lst_ap, ↓call_ap, ↓callP_ap, ↓callI_ap, ↓perm_ap, ↓nop_ap, ↓smp_ap, ↓sl_ap, ↓chain_ap, ↓isi_ap, ↓lc_ap, ↓lstC_ap, ↓mts_ap, ↓yes_ap, ↓il_ap, ↓it_ap, ↓is_ap, ↓ir1_ap, ↓iz_ap, ↓snil_ap, ↓ret_ap, ↓sif_ap, ↓sexpr_ap, ↓bk_ap, ↓ct_ap, ↓asg_ap, ↓for_ap, ↓par_ap, ↓gname_ap, ↓gnil_ap, ↓gcons_ap, ↓gtup_ap, ↓gsub_ap, bR_ok, bR_ex, rt_some, sq_nx, sq_rt, sq_bk, sq_ct, sq_ex, bS_ok, bS_ex, binK1_ap, binK2_ap, tstK_b, notK_ap, andK_t, andK_f, orK_t, orK_f, ifK_t, ifK_f, andV_t, andV_f, orV_t, orV_f, notV_c, consK1_ap, consK2_ap, tupK_ok, lstK_ok, callK_ap, permK_ap, smP_int, slK1_ap, slK2_ap, slK3_ap, sl_lst, sl_scr, sl_tup, chK1_ap, chK2_ap, chK3_t, chK3_f, chK4_ap, isiK_int, isiK_str, isiK_bl, isiK_non, isiK_tup, isiK_lst, mtsK_str, mtsK2_ap, ilK_lst, ilK_scr, itK_tup, isK_str, izK_l, izK_t, retK_ap, sifK_t, sifK_f, sexprK_ap, asgK_ap, bG_ok, forK_ap, parK_ok, gK_ok, subK1_ok, subK2_ok, add_int, sub_int, mod_int, lt_int, le_int, gt_int, ge_int, eq_int, eq_str, eq_bl, eq_is, eq_si, eq_bs, eq_sb, eq_nn, ne_int, ne_str, ne_bl, isn_ap, isN_int, isN_str, isN_bl, isN_tup, isN_lst, isN_non, ix_lst, ix_tup, ix_scr, len_lst, len_tup, int_int, list_lst, list_tup, tuple_lst, tuple_tup, asB_bl, getD0, getDS, set0, setS, at0, atS, map_some', bind_some', List.length_cons, List.length_nil, List.any_cons, List.any_nil, ↓fld_ap, ↓mei_ap, ↓faug_ap, ↓c1_ap, ↓ir2_ap, ↓sfld_ap, fldK_ap, meiK2_ap, c1K_ap, sfldK_ap, sfldK2_ap, decide_true, decide_false, and_self, Nat.reduceLeDiff, Nat.reduceAdd, if_true, Int.reduceLT, Int.reduceNeg, Int.reducePow, Int.reduceToNat, Int.reduceLE, Nat.reduceLT, Int.reduceAdd, Int.reduceSub, Bool.not_true, Bool.not_false, Int.reduceEq, bne_self_eq_false, Bool.false_bne, Bool.true_bne, Int.reduceBNe, f_src, f_spot, len_str hs, hk2, ix_str hs, atI_nat s k k rfl, h2, map_some', nin_stop, hc]
      rfl
  | c :: z, k, n, hk, hn, e, hz => by
    obtain ⟨n, rfl⟩ : ∃ m, n = m + 1 := ⟨n - 1, by omega⟩
    obtain ⟨h1, h2, h3⟩ := drop_at (show s.drop k = c :: (z ++ r) from e)
    have hk2 : (k : Int) < (s.length : Int) := by omega
    have hc : c ∉ stops := hz c List.mem_cons_self
    have a := faug_rd (t := t) (s := s) (k := k) (v := mC (.int 1)) (ε := [some (.ref t.length), some b]) (i := 1) (j := k + 1) (by omega) rfl
    have e1 : mt_ConditionReader_signs_0 [some (.ref t.length), some b] (t ++ [rd s k]) = some (.ok true, t ++ [rd s k]) := by
      simp only [mt_ConditionReader_signs_0, ↓seq_ap, ↓var_ap, ↓c_ap, ↓bin_ap, ↓tst_ap, ↓not_ap, ↓and_ap, ↓or_ap, ↓if_ap, ↓andv_ap, ↓orv_ap, ↓notv_ap, ↓nil_ap, ↓cons_ap, ↓tup_ap, ↓lst_ap, ↓call_ap, ↓callP_ap, ↓callI_ap, ↓perm_ap, ↓nop_ap, ↓smp_ap, ↓sl_ap, ↓chain_ap, ↓isi_ap, ↓lc_ap, ↓lstC_ap, ↓mts_ap, ↓yes_ap, ↓il_ap, ↓it_ap, ↓is_ap, ↓ir1_ap, ↓iz_ap, ↓snil_ap, ↓ret_ap, ↓sif_ap, ↓sexpr_ap, ↓bk_ap, ↓ct_ap, ↓asg_ap, ↓for_ap, ↓par_ap, ↓gname_ap, ↓gnil_ap, ↓gcons_ap, ↓gtup_ap, ↓gsub_ap, bR_ok, bR_ex, rt_some, sq_nx, sq_rt, sq_bk, sq_ct, sq_ex, bS_ok, bS_ex, binK1_ap, binK2_ap, tstK_b, notK_ap, andK_t, andK_f, orK_t, orK_f, ifK_t, ifK_f, andV_t, andV_f, orV_t, orV_f, notV_c, consK1_ap, consK2_ap, tupK_ok, lstK_ok, callK_ap, permK_ap, smP_int, slK1_ap, slK2_ap, slK3_ap, sl_lst, sl_scr, sl_tup, chK1_ap, chK2_ap, chK3_t, chK3_f, chK4_ap, isiK_int, isiK_str, isiK_bl, isiK_non, isiK_tup, isiK_lst, mtsK_str, mtsK2_ap, ilK_lst, ilK_scr, itK_tup, isK_str, izK_l, izK_t, retK_ap, sifK_t, sifK_f, sexprK_ap, asgK_ap, bG_ok, forK_ap, parK_ok, gK_ok, subK1_ok, subK2_ok, add_int, sub_int, mod_int, lt_int, le_int, gt_int, ge_int, eq_int, eq_str, eq_bl, eq_is, eq_si, eq_bs, eq_sb, eq_nn, ne_int, ne_str, ne_bl, isn_ap, isN_int, isN_str, isN_bl, isN_tup, isN_lst, isN_non, ix_lst, ix_tup, ix_scr, len_lst, len_tup, int_int, list_lst, list_tup, tuple_lst, tuple_tup, asB_bl, getD0, getDS, set0, setS, at0, atS, map_some', bind_some', List.length_cons, List.length_nil, List.any_cons, List.any_nil, ↓fld_ap, ↓mei_ap, ↓faug_ap, ↓c1_ap, ↓ir2_ap, ↓sfld_ap, fldK_ap, meiK2_ap, c1K_ap, sfldK_ap, sfldK2_ap, decide_true, decide_false, and_self, Nat.reduceLeDiff, Nat.reduceAdd, if_true, Int.reduceLT, Int.reduceNeg, Int.reducePow, Int.reduceToNat, Int.reduceLE, Nat.reduceLT, Int.reduceAdd, Int.reduceSub, Bool.not_true, Bool.not_false, Int.reduceEq, bne_self_eq_false, Bool.false_bne, Bool.true_bne, Int.reduceBNe, f_src, f_spot, len_str hs, hk2, ix_str hs, atI_nat s k k rfl, h2, map_some', nin_stop, hc]
    have e2 : msFAug ["ConditionReader"] "spot" (mVar 0) (mC (.int 1)) [some (.ref t.length), some b] (t ++ [rd s k]) = some (.nx [some (.ref t.length), some b], t ++ [rd s (k + 1)]) := by
      simp only [↓seq_ap, ↓var_ap, ↓c_ap, ↓bin_ap, ↓tst_ap, ↓not_ap, ↓and_ap, ↓or_ap, ↓if_ap, ↓andv_ap, ↓orv_ap, ↓notv_ap, ↓nil_ap, ↓cons_ap, ↓tup_ap, ↓lst_ap, ↓call_ap, ↓callP_ap, ↓callI_ap, ↓perm_ap, ↓nop_ap, ↓smp_ap, ↓sl_ap, ↓chain_ap, ↓isi_ap, ↓lc_ap, ↓lstC_ap, ↓mts_ap, ↓yes_ap, ↓il_ap, ↓it_ap, ↓is_ap, ↓ir1_ap, ↓iz_ap, ↓snil_ap, ↓ret_ap, ↓sif_ap, ↓sexpr_ap, ↓bk_ap, ↓ct_ap, ↓asg_ap, ↓for_ap, ↓par_ap, ↓gname_ap, ↓gnil_ap, ↓gcons_ap, ↓gtup_ap, ↓gsub_ap, bR_ok, bR_ex, rt_some, sq_nx, sq_rt, sq_bk, sq_ct, sq_ex, bS_ok, bS_ex, binK1_ap, binK2_ap, tstK_b, notK_ap, andK_t, andK_f, orK_t, orK_f, ifK_t, ifK_f, andV_t, andV_f, orV_t, orV_f, notV_c, consK1_ap, consK2_ap, tupK_ok, lstK_ok, callK_ap, permK_ap, smP_int, slK1_ap, slK2_ap, slK3_ap, sl_lst, sl_scr, sl_tup, chK1_ap, chK2_ap, chK3_t, chK3_f, chK4_ap, isiK_int, isiK_str, isiK_bl, isiK_non, isiK_tup, isiK_lst, mtsK_str, mtsK2_ap, ilK_lst, ilK_scr, itK_tup, isK_str, izK_l, izK_t, retK_ap, sifK_t, sifK_f, sexprK_ap, asgK_ap, bG_ok, forK_ap, parK_ok, gK_ok, subK1_ok, subK2_ok, add_int, sub_int, mod_int, lt_int, le_int, gt_int, ge_int, eq_int, eq_str, eq_bl, eq_is, eq_si, eq_bs, eq_sb, eq_nn, ne_int, ne_str, ne_bl, isn_ap, isN_int, isN_str, isN_bl, isN_tup, isN_lst, isN_non, ix_lst, ix_tup, ix_scr, len_lst, len_tup, int_int, list_lst, list_tup, tuple_lst, tuple_tup, asB_bl, getD0, getDS, set0, setS, at0, atS, map_some', bind_some', List.length_cons, List.length_nil, List.any_cons, List.any_nil, ↓fld_ap, ↓mei_ap, ↓faug_ap, ↓c1_ap, ↓ir2_ap, ↓sfld_ap, fldK_ap, meiK2_ap, c1K_ap, sfldK_ap, sfldK2_ap, a]
    rw [wh_go e1 e2, sg_loop hs hr z (k + 1) n (by omega) (by simp at hn; omega) h3 (fun c hc => hz c (List.mem_cons_of_mem _ hc))]
    rw [List.length_cons, show k + 1 + z.length = k + (z.length + 1) by omega]
theorem cut_mid {s z r : List Nat} {k : Nat} (hk : k ≤ s.length) (e : s.drop k = z ++ r) : cutD s (some (k : Int)) (some ((k + z.length : Nat) : Int)) = z := by
  have l := drop_le hk e
  unfold cutD
  rw [HT.sIx_nat, HT.sIx_nat, Nat.min_eq_left hk, Nat.min_eq_left l, e, show k + z.length - k = z.length by omega]
  simp
theorem signs_ok {t : EH} {s z r : List Nat} {k : Nat} (hs : s.length ≤ 8000) (hk : k ≤ s.length) (e : s.drop k = z ++ r) (hz : ∀ c ∈ z, c ∉ stops) (hr : Stop r) : F_ConditionReader_signs [.ref t.length] (t ++ [rd s k]) = some (.ok (.str z), t ++ [rd s (k + z.length)]) := by
  have l := drop_le hk e
  have lp := sg_loop (t := t) (s := s) (by omega) (b := .int k) hr z k 8192 hk (by omega) e hz
  show endI (t ++ [rd s k]).length (m_ConditionReader_signs [some (.ref t.length), none] (t ++ [rd s k])) = _
  have wh : ∀ (n : Nat) (m : M Bool) (b : MS) (ε : Ev) (h : EH), msWh n m b ε h = whL m b n ε h := fun _ _ _ _ _ => rfl
  simp only [m_ConditionReader_signs, ↓seq_ap, ↓var_ap, ↓c_ap, ↓bin_ap, ↓tst_ap, ↓not_ap, ↓and_ap, ↓or_ap, ↓if_ap, ↓andv_ap, ↓orv_ap, ↓notv_ap, ↓nil_ap, ↓cons_ap, ↓tup_ap, ↓lst_ap, ↓call_ap, ↓callP_ap, ↓callI_ap, ↓perm_ap, ↓nop_ap, ↓smp_ap, ↓sl_ap, ↓chain_ap, ↓isi_ap, ↓lc_ap, ↓lstC_ap, ↓mts_ap, ↓yes_ap, ↓il_ap, ↓it_ap, ↓is_ap, ↓ir1_ap, ↓iz_ap, ↓snil_ap, ↓ret_ap, ↓sif_ap, ↓sexpr_ap, ↓bk_ap, ↓ct_ap, ↓asg_ap, ↓for_ap, ↓par_ap, ↓gname_ap, ↓gnil_ap, ↓gcons_ap, ↓gtup_ap, ↓gsub_ap, bR_ok, bR_ex, rt_some, sq_nx, sq_rt, sq_bk, sq_ct, sq_ex, bS_ok, bS_ex, binK1_ap, binK2_ap, tstK_b, notK_ap, andK_t, andK_f, orK_t, orK_f, ifK_t, ifK_f, andV_t, andV_f, orV_t, orV_f, notV_c, consK1_ap, consK2_ap, tupK_ok, lstK_ok, callK_ap, permK_ap, smP_int, slK1_ap, slK2_ap, slK3_ap, sl_lst, sl_scr, sl_tup, chK1_ap, chK2_ap, chK3_t, chK3_f, chK4_ap, isiK_int, isiK_str, isiK_bl, isiK_non, isiK_tup, isiK_lst, mtsK_str, mtsK2_ap, ilK_lst, ilK_scr, itK_tup, isK_str, izK_l, izK_t, retK_ap, sifK_t, sifK_f, sexprK_ap, asgK_ap, bG_ok, forK_ap, parK_ok, gK_ok, subK1_ok, subK2_ok, add_int, sub_int, mod_int, lt_int, le_int, gt_int, ge_int, eq_int, eq_str, eq_bl, eq_is, eq_si, eq_bs, eq_sb, eq_nn, ne_int, ne_str, ne_bl, isn_ap, isN_int, isN_str, isN_bl, isN_tup, isN_lst, isN_non, ix_lst, ix_tup, ix_scr, len_lst, len_tup, int_int, list_lst, list_tup, tuple_lst, tuple_tup, asB_bl, getD0, getDS, set0, setS, at0, atS, map_some', bind_some', List.length_cons, List.length_nil, List.any_cons, List.any_nil, ↓fld_ap, ↓mei_ap, ↓faug_ap, ↓c1_ap, ↓ir2_ap, ↓sfld_ap, fldK_ap, meiK2_ap, c1K_ap, sfldK_ap, sfldK2_ap, decide_true, decide_false, and_self, Nat.reduceLeDiff, Nat.reduceAdd, if_true, Int.reduceLT, Int.reduceNeg, Int.reducePow, Int.reduceToNat, Int.reduceLE, Nat.reduceLT, Int.reduceAdd, Int.reduceSub, Bool.not_true, Bool.not_false, Int.reduceEq, bne_self_eq_false, Bool.false_bne, Bool.true_bne, Int.reduceBNe, f_src, f_spot, wh, lp, sl_str (z := s) _ _ (by omega), cut_mid hk e]
  exact endI_ok (by rw [lst1, lst1]) rfl
end PV

namespace PD
theorem star_ap {ε : Ev} {h : EH} {a : M D} {b : M (List D)} {x : D} {xs : List D} {h1 : EH} (e : a ε h = some (.ok x, h1)) (e2 : asS h1 x = some xs) : mStar a b ε h = bR (b ε h1) fun ys h2 => some (.ok (xs ++ ys), h2) := by
  unfold mStar
  rw [e, bR_ok, e2]
end PD
namespace PV
open PySem PD
/-! ## conditions -/
inductive Cw where
  | am | be | sa
  deriving DecidableEq
def Cw.w : Cw → List Nat
  | .am => [97, 116, 109, 111, 115, 116]
  | .be => [98, 101, 108, 111, 119]
  | .sa => [115, 97, 109, 101]
def Cw.s : Cw → List Nat
  | .am => [60, 61]
  | .be => [60]
  | .sa => [61]
def jw (j : Bool) : List Nat := if j = true then [97, 110, 100] else [111, 114]
inductive Cd where
  | cmp (o : Cw) (a b : Vl) | tru | fnd (z : List Nat) | nt (c : Cd) | bin (j : Bool) (c d : Cd)
def Cd.d : Cd → D
  | .cmp o a b => .tup [.str o.w, a.d, b.d]
  | .tru => .tup [.str [116, 114, 117, 101]]
  | .fnd z => .tup [.str [102, 111, 117, 110, 100], .str z]
  | .nt c => .tup [.str [110, 111, 116], c.d]
  | .bin j c d => .tup [.str (jw j), c.d, d.d]
def Cd.ok : Cd → Bool
  | .cmp _ a b => a.ok && b.ok
  | .tru => true
  | .fnd z => isNm z
  | .nt c => c.ok
  | .bin _ c d => c.ok && d.ok
def Cd.dep : Cd → Nat
  | .nt c => c.dep + 1
  | .bin _ c d => max c.dep d.dep + 1
  | _ => 1
def Cd.txt : Cd → List Nat
  | .cmp o a b => a.txt ++ ([32] ++ (o.s ++ ([32] ++ b.txt)))
  | .tru => [116, 114, 117, 101]
  | .fnd z => [102, 111, 117, 110, 100, 32] ++ z
  | .nt c => [110, 111, 116, 32] ++ c.txt
  | .bin j c d => [40] ++ (c.txt ++ ([32] ++ (jw j ++ ([32] ++ (d.txt ++ [41])))))
theorem Cd.noRef : ∀ c : Cd, PD.noRef c.d = true
  | .cmp o a b => by
    show (true && (PD.noRef a.d && (PD.noRef b.d && true))) = true
    rw [a.noRef, b.noRef]; rfl
  | .tru => rfl
  | .fnd _ => rfl
  | .nt c => by
    show (true && (PD.noRef c.d && true)) = true
    rw [Cd.noRef c]; rfl
  | .bin j c d => by
    show (true && (PD.noRef c.d && (PD.noRef d.d && true))) = true
    rw [Cd.noRef c, Cd.noRef d]; rfl
theorem Cd.dep_pos : ∀ c : Cd, 1 ≤ c.dep
  | .cmp _ _ _ => Nat.le_refl _
  | .tru => Nat.le_refl _
  | .fnd _ => Nat.le_refl _
  | .nt c => by show 1 ≤ c.dep + 1; omega
  | .bin _ c d => by show 1 ≤ max c.dep d.dep + 1; omega
/-! ### the table of signs -/
theorem cin_cw (o : Cw) : dCIn false kv_SIGNS (.str o.w) = some (.bl true) := by cases o <;> rfl
theorem cix_cw (o : Cw) : dCIx kv_SIGNS (.str o.w) = some (.str o.s) := by cases o <;> rfl
theorem cin_tru : dCIn false kv_SIGNS (.str [116, 114, 117, 101]) = some (.bl false) := rfl
theorem cin_fnd : dCIn false kv_SIGNS (.str [102, 111, 117, 110, 100]) = some (.bl false) := rfl
theorem cin_nt : dCIn false kv_SIGNS (.str [110, 111, 116]) = some (.bl false) := rfl
theorem cin_jw (j : Bool) : dCIn false kv_SIGNS (.str (jw j)) = some (.bl false) := by cases j <;> rfl
theorem jw_fnd (j : Bool) : ¬ jw j = [102, 111, 117, 110, 100] := by cases j <;> decide
theorem jw_nt (j : Bool) : ¬ jw j = [110, 111, 116] := by cases j <;> decide
theorem jw_tru (j : Bool) : ¬ jw j = [116, 114, 117, 101] := by cases j <;> decide
def hfD : M D := mDGet2 (mDisp [((mC (.str [116, 114, 117, 101])), (mC (.int 1))), ((mC (.str [110, 111, 116])), (mC (.int 2))), ((mC (.str [97, 110, 100])), (mC (.int 3))), ((mC (.str [111, 114])), (mC (.int 3)))]) (mVar 1) (mC (.int 0))
theorem hf_tru (x : Option D) : hfD [x, some (.str [116, 114, 117, 101])] [] = some (.ok (.int 1), []) := by kernel_rfl
theorem hf_nt (x : Option D) : hfD [x, some (.str [110, 111, 116])] [] = some (.ok (.int 2), []) := by kernel_rfl
theorem hf_jw (x : Option D) (j : Bool) : hfD [x, some (.str (jw j))] [] = some (.ok (.int 3), []) := by cases j <;> kernel_rfl
theorem hf_fold : mDGet2 (mDisp [((mC (.str [116, 114, 117, 101])), (mC (.int 1))), ((mC (.str [110, 111, 116])), (mC (.int 2))), ((mC (.str [97, 110, 100])), (mC (.int 3))), ((mC (.str [111, 114])), (mC (.int 3)))]) (mVar 1) (mC (.int 0)) = hfD := rfl
theorem v_ok {v : Vl} (h : v.ok = true) (t : EH) : callPK F_is_value [v.d] t = some (.ok (.bl true), t) := callPK_ok (isValue_ok h) (go1 v.noRef)
theorem form_ok : ∀ {c : Cd}, c.ok = true → F_has_form [c.d] = some (.ok (.bl true))
  | .cmp o a b, h => by
    have h' := Bool.and_eq_true_iff.mp (show (a.ok && b.ok) = true from h)
    show endP (m_has_form [some (Cd.cmp o a b).d, none] []) = _
    simp only [m_has_form, hf_fold, Cd.d, ↓seq_ap, ↓var_ap, ↓c_ap, ↓bin_ap, ↓tst_ap, ↓not_ap, ↓and_ap, ↓or_ap, ↓if_ap, ↓andv_ap, ↓orv_ap, ↓notv_ap, ↓nil_ap, ↓cons_ap, ↓tup_ap, ↓lst_ap, ↓call_ap, ↓callP_ap, ↓callI_ap, ↓perm_ap, ↓nop_ap, ↓smp_ap, ↓sl_ap, ↓chain_ap, ↓isi_ap, ↓lc_ap, ↓lstC_ap, ↓mts_ap, ↓yes_ap, ↓il_ap, ↓it_ap, ↓is_ap, ↓ir1_ap, ↓iz_ap, ↓snil_ap, ↓ret_ap, ↓sif_ap, ↓sexpr_ap, ↓bk_ap, ↓ct_ap, ↓asg_ap, ↓for_ap, ↓par_ap, ↓gname_ap, ↓gnil_ap, ↓gcons_ap, ↓gtup_ap, ↓gsub_ap, bR_ok, bR_ex, rt_some, sq_nx, sq_rt, sq_bk, sq_ct, sq_ex, bS_ok, bS_ex, binK1_ap, binK2_ap, tstK_b, notK_ap, andK_t, andK_f, orK_t, orK_f, ifK_t, ifK_f, andV_t, andV_f, orV_t, orV_f, notV_c, consK1_ap, consK2_ap, tupK_ok, lstK_ok, callK_ap, permK_ap, smP_int, slK1_ap, slK2_ap, slK3_ap, sl_lst, sl_scr, sl_tup, chK1_ap, chK2_ap, chK3_t, chK3_f, chK4_ap, isiK_int, isiK_str, isiK_bl, isiK_non, isiK_tup, isiK_lst, mtsK_str, mtsK2_ap, ilK_lst, ilK_scr, itK_tup, isK_str, izK_l, izK_t, retK_ap, sifK_t, sifK_f, sexprK_ap, asgK_ap, bG_ok, forK_ap, parK_ok, gK_ok, subK1_ok, subK2_ok, add_int, sub_int, mod_int, lt_int, le_int, gt_int, ge_int, eq_int, eq_str, eq_bl, eq_is, eq_si, eq_bs, eq_sb, eq_nn, ne_int, ne_str, ne_bl, isn_ap, isN_int, isN_str, isN_bl, isN_tup, isN_lst, isN_non, ix_lst, ix_tup, ix_scr, len_lst, len_tup, int_int, list_lst, list_tup, tuple_lst, tuple_tup, asB_bl, getD0, getDS, set0, setS, at0, atS, map_some', bind_some', List.length_cons, List.length_nil, List.any_cons, List.any_nil, ↓fld_ap, ↓mei_ap, ↓faug_ap, ↓c1_ap, ↓ir2_ap, ↓sfld_ap, fldK_ap, meiK2_ap, c1K_ap, sfldK_ap, sfldK2_ap, decide_true, decide_false, and_self, Nat.reduceLeDiff, Nat.reduceAdd, if_true, Int.reduceLT, Int.reduceNeg, Int.reducePow, Int.reduceToNat, Int.reduceLE, Nat.reduceLT, Int.reduceAdd, Int.reduceSub, Bool.not_true, Bool.not_false, Int.reduceEq, bne_self_eq_false, Bool.false_bne, Bool.true_bne, Int.reduceBNe, isa, Bool.or_false, Bool.or_true, Bool.false_or, atl0, atl1, atl2, len0, len1, len2, len3, cin_cw, v_ok h'.1, v_ok h'.2]
    rfl
  | .tru, _ => by
    show endP (m_has_form [some Cd.tru.d, none] []) = _
    simp only [m_has_form, hf_fold, Cd.d, ↓seq_ap, ↓var_ap, ↓c_ap, ↓bin_ap, ↓tst_ap, ↓not_ap, ↓and_ap, ↓or_ap, ↓if_ap, ↓andv_ap, ↓orv_ap, ↓notv_ap, ↓nil_ap, ↓cons_ap, ↓tup_ap, ↓lst_ap, ↓call_ap, ↓callP_ap, ↓callI_ap, ↓perm_ap, ↓nop_ap, ↓smp_ap, ↓sl_ap, ↓chain_ap, ↓isi_ap, ↓lc_ap, ↓lstC_ap, ↓mts_ap, ↓yes_ap, ↓il_ap, ↓it_ap, ↓is_ap, ↓ir1_ap, ↓iz_ap, ↓snil_ap, ↓ret_ap, ↓sif_ap, ↓sexpr_ap, ↓bk_ap, ↓ct_ap, ↓asg_ap, ↓for_ap, ↓par_ap, ↓gname_ap, ↓gnil_ap, ↓gcons_ap, ↓gtup_ap, ↓gsub_ap, bR_ok, bR_ex, rt_some, sq_nx, sq_rt, sq_bk, sq_ct, sq_ex, bS_ok, bS_ex, binK1_ap, binK2_ap, tstK_b, notK_ap, andK_t, andK_f, orK_t, orK_f, ifK_t, ifK_f, andV_t, andV_f, orV_t, orV_f, notV_c, consK1_ap, consK2_ap, tupK_ok, lstK_ok, callK_ap, permK_ap, smP_int, slK1_ap, slK2_ap, slK3_ap, sl_lst, sl_scr, sl_tup, chK1_ap, chK2_ap, chK3_t, chK3_f, chK4_ap, isiK_int, isiK_str, isiK_bl, isiK_non, isiK_tup, isiK_lst, mtsK_str, mtsK2_ap, ilK_lst, ilK_scr, itK_tup, isK_str, izK_l, izK_t, retK_ap, sifK_t, sifK_f, sexprK_ap, asgK_ap, bG_ok, forK_ap, parK_ok, gK_ok, subK1_ok, subK2_ok, add_int, sub_int, mod_int, lt_int, le_int, gt_int, ge_int, eq_int, eq_str, eq_bl, eq_is, eq_si, eq_bs, eq_sb, eq_nn, ne_int, ne_str, ne_bl, isn_ap, isN_int, isN_str, isN_bl, isN_tup, isN_lst, isN_non, ix_lst, ix_tup, ix_scr, len_lst, len_tup, int_int, list_lst, list_tup, tuple_lst, tuple_tup, asB_bl, getD0, getDS, set0, setS, at0, atS, map_some', bind_some', List.length_cons, List.length_nil, List.any_cons, List.any_nil, ↓fld_ap, ↓mei_ap, ↓faug_ap, ↓c1_ap, ↓ir2_ap, ↓sfld_ap, fldK_ap, meiK2_ap, c1K_ap, sfldK_ap, sfldK2_ap, decide_true, decide_false, and_self, Nat.reduceLeDiff, Nat.reduceAdd, if_true, Int.reduceLT, Int.reduceNeg, Int.reducePow, Int.reduceToNat, Int.reduceLE, Nat.reduceLT, Int.reduceAdd, Int.reduceSub, Bool.not_true, Bool.not_false, Int.reduceEq, bne_self_eq_false, Bool.false_bne, Bool.true_bne, Int.reduceBNe, isa, Bool.or_false, Bool.or_true, Bool.false_or, atl0, atl1, atl2, len0, len1, len2, len3, cin_tru, List.cons.injEq, Nat.reduceEqDiff, false_and, and_false, hf_tru]
    rfl
  | .fnd z, h => by
    have e := callPK_ok (F := F_is_name) (h := []) (isName_nm (show isNm z = true from h)) rfl
    show endP (m_has_form [some (Cd.fnd z).d, none] []) = _
    simp only [m_has_form, hf_fold, Cd.d, ↓seq_ap, ↓var_ap, ↓c_ap, ↓bin_ap, ↓tst_ap, ↓not_ap, ↓and_ap, ↓or_ap, ↓if_ap, ↓andv_ap, ↓orv_ap, ↓notv_ap, ↓nil_ap, ↓cons_ap, ↓tup_ap, ↓lst_ap, ↓call_ap, ↓callP_ap, ↓callI_ap, ↓perm_ap, ↓nop_ap, ↓smp_ap, ↓sl_ap, ↓chain_ap, ↓isi_ap, ↓lc_ap, ↓lstC_ap, ↓mts_ap, ↓yes_ap, ↓il_ap, ↓it_ap, ↓is_ap, ↓ir1_ap, ↓iz_ap, ↓snil_ap, ↓ret_ap, ↓sif_ap, ↓sexpr_ap, ↓bk_ap, ↓ct_ap, ↓asg_ap, ↓for_ap, ↓par_ap, ↓gname_ap, ↓gnil_ap, ↓gcons_ap, ↓gtup_ap, ↓gsub_ap, bR_ok, bR_ex, rt_some, sq_nx, sq_rt, sq_bk, sq_ct, sq_ex, bS_ok, bS_ex, binK1_ap, binK2_ap, tstK_b, notK_ap, andK_t, andK_f, orK_t, orK_f, ifK_t, ifK_f, andV_t, andV_f, orV_t, orV_f, notV_c, consK1_ap, consK2_ap, tupK_ok, lstK_ok, callK_ap, permK_ap, smP_int, slK1_ap, slK2_ap, slK3_ap, sl_lst, sl_scr, sl_tup, chK1_ap, chK2_ap, chK3_t, chK3_f, chK4_ap, isiK_int, isiK_str, isiK_bl, isiK_non, isiK_tup, isiK_lst, mtsK_str, mtsK2_ap, ilK_lst, ilK_scr, itK_tup, isK_str, izK_l, izK_t, retK_ap, sifK_t, sifK_f, sexprK_ap, asgK_ap, bG_ok, forK_ap, parK_ok, gK_ok, subK1_ok, subK2_ok, add_int, sub_int, mod_int, lt_int, le_int, gt_int, ge_int, eq_int, eq_str, eq_bl, eq_is, eq_si, eq_bs, eq_sb, eq_nn, ne_int, ne_str, ne_bl, isn_ap, isN_int, isN_str, isN_bl, isN_tup, isN_lst, isN_non, ix_lst, ix_tup, ix_scr, len_lst, len_tup, int_int, list_lst, list_tup, tuple_lst, tuple_tup, asB_bl, getD0, getDS, set0, setS, at0, atS, map_some', bind_some', List.length_cons, List.length_nil, List.any_cons, List.any_nil, ↓fld_ap, ↓mei_ap, ↓faug_ap, ↓c1_ap, ↓ir2_ap, ↓sfld_ap, fldK_ap, meiK2_ap, c1K_ap, sfldK_ap, sfldK2_ap, decide_true, decide_false, and_self, Nat.reduceLeDiff, Nat.reduceAdd, if_true, Int.reduceLT, Int.reduceNeg, Int.reducePow, Int.reduceToNat, Int.reduceLE, Nat.reduceLT, Int.reduceAdd, Int.reduceSub, Bool.not_true, Bool.not_false, Int.reduceEq, bne_self_eq_false, Bool.false_bne, Bool.true_bne, Int.reduceBNe, isa, Bool.or_false, Bool.or_true, Bool.false_or, atl0, atl1, atl2, len0, len1, len2, len3, cin_fnd, e]
    rfl
  | .nt c, h => by
    show endP (m_has_form [some (Cd.nt c).d, none] []) = _
    simp only [m_has_form, hf_fold, Cd.d, ↓seq_ap, ↓var_ap, ↓c_ap, ↓bin_ap, ↓tst_ap, ↓not_ap, ↓and_ap, ↓or_ap, ↓if_ap, ↓andv_ap, ↓orv_ap, ↓notv_ap, ↓nil_ap, ↓cons_ap, ↓tup_ap, ↓lst_ap, ↓call_ap, ↓callP_ap, ↓callI_ap, ↓perm_ap, ↓nop_ap, ↓smp_ap, ↓sl_ap, ↓chain_ap, ↓isi_ap, ↓lc_ap, ↓lstC_ap, ↓mts_ap, ↓yes_ap, ↓il_ap, ↓it_ap, ↓is_ap, ↓ir1_ap, ↓iz_ap, ↓snil_ap, ↓ret_ap, ↓sif_ap, ↓sexpr_ap, ↓bk_ap, ↓ct_ap, ↓asg_ap, ↓for_ap, ↓par_ap, ↓gname_ap, ↓gnil_ap, ↓gcons_ap, ↓gtup_ap, ↓gsub_ap, bR_ok, bR_ex, rt_some, sq_nx, sq_rt, sq_bk, sq_ct, sq_ex, bS_ok, bS_ex, binK1_ap, binK2_ap, tstK_b, notK_ap, andK_t, andK_f, orK_t, orK_f, ifK_t, ifK_f, andV_t, andV_f, orV_t, orV_f, notV_c, consK1_ap, consK2_ap, tupK_ok, lstK_ok, callK_ap, permK_ap, smP_int, slK1_ap, slK2_ap, slK3_ap, sl_lst, sl_scr, sl_tup, chK1_ap, chK2_ap, chK3_t, chK3_f, chK4_ap, isiK_int, isiK_str, isiK_bl, isiK_non, isiK_tup, isiK_lst, mtsK_str, mtsK2_ap, ilK_lst, ilK_scr, itK_tup, isK_str, izK_l, izK_t, retK_ap, sifK_t, sifK_f, sexprK_ap, asgK_ap, bG_ok, forK_ap, parK_ok, gK_ok, subK1_ok, subK2_ok, add_int, sub_int, mod_int, lt_int, le_int, gt_int, ge_int, eq_int, eq_str, eq_bl, eq_is, eq_si, eq_bs, eq_sb, eq_nn, ne_int, ne_str, ne_bl, isn_ap, isN_int, isN_str, isN_bl, isN_tup, isN_lst, isN_non, ix_lst, ix_tup, ix_scr, len_lst, len_tup, int_int, list_lst, list_tup, tuple_lst, tuple_tup, asB_bl, getD0, getDS, set0, setS, at0, atS, map_some', bind_some', List.length_cons, List.length_nil, List.any_cons, List.any_nil, ↓fld_ap, ↓mei_ap, ↓faug_ap, ↓c1_ap, ↓ir2_ap, ↓sfld_ap, fldK_ap, meiK2_ap, c1K_ap, sfldK_ap, sfldK2_ap, decide_true, decide_false, and_self, Nat.reduceLeDiff, Nat.reduceAdd, if_true, Int.reduceLT, Int.reduceNeg, Int.reducePow, Int.reduceToNat, Int.reduceLE, Nat.reduceLT, Int.reduceAdd, Int.reduceSub, Bool.not_true, Bool.not_false, Int.reduceEq, bne_self_eq_false, Bool.false_bne, Bool.true_bne, Int.reduceBNe, isa, Bool.or_false, Bool.or_true, Bool.false_or, atl0, atl1, atl2, len0, len1, len2, len3, cin_nt, List.cons.injEq, Nat.reduceEqDiff, false_and, and_false, hf_nt]
    rfl
  | .bin j c d, h => by
    show endP (m_has_form [some (Cd.bin j c d).d, none] []) = _
    simp only [m_has_form, hf_fold, Cd.d, ↓seq_ap, ↓var_ap, ↓c_ap, ↓bin_ap, ↓tst_ap, ↓not_ap, ↓and_ap, ↓or_ap, ↓if_ap, ↓andv_ap, ↓orv_ap, ↓notv_ap, ↓nil_ap, ↓cons_ap, ↓tup_ap, ↓lst_ap, ↓call_ap, ↓callP_ap, ↓callI_ap, ↓perm_ap, ↓nop_ap, ↓smp_ap, ↓sl_ap, ↓chain_ap, ↓isi_ap, ↓lc_ap, ↓lstC_ap, ↓mts_ap, ↓yes_ap, ↓il_ap, ↓it_ap, ↓is_ap, ↓ir1_ap, ↓iz_ap, ↓snil_ap, ↓ret_ap, ↓sif_ap, ↓sexpr_ap, ↓bk_ap, ↓ct_ap, ↓asg_ap, ↓for_ap, ↓par_ap, ↓gname_ap, ↓gnil_ap, ↓gcons_ap, ↓gtup_ap, ↓gsub_ap, bR_ok, bR_ex, rt_some, sq_nx, sq_rt, sq_bk, sq_ct, sq_ex, bS_ok, bS_ex, binK1_ap, binK2_ap, tstK_b, notK_ap, andK_t, andK_f, orK_t, orK_f, ifK_t, ifK_f, andV_t, andV_f, orV_t, orV_f, notV_c, consK1_ap, consK2_ap, tupK_ok, lstK_ok, callK_ap, permK_ap, smP_int, slK1_ap, slK2_ap, slK3_ap, sl_lst, sl_scr, sl_tup, chK1_ap, chK2_ap, chK3_t, chK3_f, chK4_ap, isiK_int, isiK_str, isiK_bl, isiK_non, isiK_tup, isiK_lst, mtsK_str, mtsK2_ap, ilK_lst, ilK_scr, itK_tup, isK_str, izK_l, izK_t, retK_ap, sifK_t, sifK_f, sexprK_ap, asgK_ap, bG_ok, forK_ap, parK_ok, gK_ok, subK1_ok, subK2_ok, add_int, sub_int, mod_int, lt_int, le_int, gt_int, ge_int, eq_int, eq_str, eq_bl, eq_is, eq_si, eq_bs, eq_sb, eq_nn, ne_int, ne_str, ne_bl, isn_ap, isN_int, isN_str, isN_bl, isN_tup, isN_lst, isN_non, ix_lst, ix_tup, ix_scr, len_lst, len_tup, int_int, list_lst, list_tup, tuple_lst, tuple_tup, asB_bl, getD0, getDS, set0, setS, at0, atS, map_some', bind_some', List.length_cons, List.length_nil, List.any_cons, List.any_nil, ↓fld_ap, ↓mei_ap, ↓faug_ap, ↓c1_ap, ↓ir2_ap, ↓sfld_ap, fldK_ap, meiK2_ap, c1K_ap, sfldK_ap, sfldK2_ap, decide_true, decide_false, and_self, Nat.reduceLeDiff, Nat.reduceAdd, if_true, Int.reduceLT, Int.reduceNeg, Int.reducePow, Int.reduceToNat, Int.reduceLE, Nat.reduceLT, Int.reduceAdd, Int.reduceSub, Bool.not_true, Bool.not_false, Int.reduceEq, bne_self_eq_false, Bool.false_bne, Bool.true_bne, Int.reduceBNe, isa, Bool.or_false, Bool.or_true, Bool.false_or, atl0, atl1, atl2, len0, len1, len2, len3, cin_jw, jw_fnd, hf_jw]
    rfl
/-! ### inner parts -/
theorem nin3 {h : EH} {z : List Nat} : dNinA h (.str z) (.tup [.str [110, 111, 116], .str [97, 110, 100], .str [111, 114]]) = some (.bl (!decide (z ∈ [[110, 111, 116], [97, 110, 100], [111, 114]]))) := by
  show (dInS true h (.str z) (.tup ([[110, 111, 116], [97, 110, 100], [111, 114]].map .str))).or (dIn true h (.str z) (.tup ([[110, 111, 116], [97, 110, 100], [111, 114]].map .str))) = _
  have e := in_strs (h := h) (z := z) [[110, 111, 116], [97, 110, 100], [111, 114]]
  have e1 : dInS true h (.str z) (.tup ([[110, 111, 116], [97, 110, 100], [111, 114]].map .str)) = none := rfl
  have e2 : dInS false h (.str z) (.tup ([[110, 111, 116], [97, 110, 100], [111, 114]].map .str)) = none := rfl
  have e3 : dInA h (.str z) (.tup ([[110, 111, 116], [97, 110, 100], [111, 114]].map .str)) = dIn false h (.str z) (.tup ([[110, 111, 116], [97, 110, 100], [111, 114]].map .str)) := by
    show (dInS false h (.str z) (.tup ([[110, 111, 116], [97, 110, 100], [111, 114]].map .str))).or _ = _
    rw [e2]; rfl
  rw [e3] at e
  rw [e1]
  show dIn true h (.str z) (.tup ([[110, 111, 116], [97, 110, 100], [111, 114]].map .str)) = _
  unfold dIn at e ⊢
  simp only [asS] at e ⊢
  split at e
  · rename_i q
    have e4 := Option.some.inj e
    have e5 := D.bl.inj e4
    rw [if_pos q, ← e5]
    simp only [Bool.false_bne, Bool.true_bne]
  · cases e
def Cd.inn : Cd → List D
  | .nt c => [.tup [.int 1, c.d]]
  | .bin _ c d => [.tup [.int 1, c.d], .tup [.int 2, d.d]]
  | _ => []
theorem cw_nin (o : Cw) : ¬ (o.w ∈ [[110, 111, 116], [97, 110, 100], [111, 114]]) := by cases o <;> decide
theorem jw_in (j : Bool) : jw j ∈ [[110, 111, 116], [97, 110, 100], [111, 114]] := by cases j <;> decide
theorem inner_ok : ∀ (c : Cd), F_inner_parts [c.d] = some (.ok (.lst c.inn))
  | .cmp o a b => by
    show endP (m_inner_parts [some (Cd.cmp o a b).d, none] []) = _
    simp only [m_inner_parts, Cd.d, ↓seq_ap, ↓var_ap, ↓c_ap, ↓bin_ap, ↓tst_ap, ↓not_ap, ↓and_ap, ↓or_ap, ↓if_ap, ↓andv_ap, ↓orv_ap, ↓notv_ap, ↓nil_ap, ↓cons_ap, ↓tup_ap, ↓lst_ap, ↓call_ap, ↓callP_ap, ↓callI_ap, ↓perm_ap, ↓nop_ap, ↓smp_ap, ↓sl_ap, ↓chain_ap, ↓isi_ap, ↓lc_ap, ↓lstC_ap, ↓mts_ap, ↓yes_ap, ↓il_ap, ↓it_ap, ↓is_ap, ↓ir1_ap, ↓iz_ap, ↓snil_ap, ↓ret_ap, ↓sif_ap, ↓sexpr_ap, ↓bk_ap, ↓ct_ap, ↓asg_ap, ↓for_ap, ↓par_ap, ↓gname_ap, ↓gnil_ap, ↓gcons_ap, ↓gtup_ap, ↓gsub_ap, bR_ok, bR_ex, rt_some, sq_nx, sq_rt, sq_bk, sq_ct, sq_ex, bS_ok, bS_ex, binK1_ap, binK2_ap, tstK_b, notK_ap, andK_t, andK_f, orK_t, orK_f, ifK_t, ifK_f, andV_t, andV_f, orV_t, orV_f, notV_c, consK1_ap, consK2_ap, tupK_ok, lstK_ok, callK_ap, permK_ap, smP_int, slK1_ap, slK2_ap, slK3_ap, sl_lst, sl_scr, sl_tup, chK1_ap, chK2_ap, chK3_t, chK3_f, chK4_ap, isiK_int, isiK_str, isiK_bl, isiK_non, isiK_tup, isiK_lst, mtsK_str, mtsK2_ap, ilK_lst, ilK_scr, itK_tup, isK_str, izK_l, izK_t, retK_ap, sifK_t, sifK_f, sexprK_ap, asgK_ap, bG_ok, forK_ap, parK_ok, gK_ok, subK1_ok, subK2_ok, add_int, sub_int, mod_int, lt_int, le_int, gt_int, ge_int, eq_int, eq_str, eq_bl, eq_is, eq_si, eq_bs, eq_sb, eq_nn, ne_int, ne_str, ne_bl, isn_ap, isN_int, isN_str, isN_bl, isN_tup, isN_lst, isN_non, ix_lst, ix_tup, ix_scr, len_lst, len_tup, int_int, list_lst, list_tup, tuple_lst, tuple_tup, asB_bl, getD0, getDS, set0, setS, at0, atS, map_some', bind_some', List.length_cons, List.length_nil, List.any_cons, List.any_nil, ↓fld_ap, ↓mei_ap, ↓faug_ap, ↓c1_ap, ↓ir2_ap, ↓sfld_ap, fldK_ap, meiK2_ap, c1K_ap, sfldK_ap, sfldK2_ap, decide_true, decide_false, and_self, Nat.reduceLeDiff, Nat.reduceAdd, if_true, Int.reduceLT, Int.reduceNeg, Int.reducePow, Int.reduceToNat, Int.reduceLE, Nat.reduceLT, Int.reduceAdd, Int.reduceSub, Bool.not_true, Bool.not_false, Int.reduceEq, bne_self_eq_false, Bool.false_bne, Bool.true_bne, Int.reduceBNe, atl0, nin3, cw_nin]
    rfl
  | .tru => by
    show endP (m_inner_parts [some Cd.tru.d, none] []) = _
    simp only [m_inner_parts, Cd.d, ↓seq_ap, ↓var_ap, ↓c_ap, ↓bin_ap, ↓tst_ap, ↓not_ap, ↓and_ap, ↓or_ap, ↓if_ap, ↓andv_ap, ↓orv_ap, ↓notv_ap, ↓nil_ap, ↓cons_ap, ↓tup_ap, ↓lst_ap, ↓call_ap, ↓callP_ap, ↓callI_ap, ↓perm_ap, ↓nop_ap, ↓smp_ap, ↓sl_ap, ↓chain_ap, ↓isi_ap, ↓lc_ap, ↓lstC_ap, ↓mts_ap, ↓yes_ap, ↓il_ap, ↓it_ap, ↓is_ap, ↓ir1_ap, ↓iz_ap, ↓snil_ap, ↓ret_ap, ↓sif_ap, ↓sexpr_ap, ↓bk_ap, ↓ct_ap, ↓asg_ap, ↓for_ap, ↓par_ap, ↓gname_ap, ↓gnil_ap, ↓gcons_ap, ↓gtup_ap, ↓gsub_ap, bR_ok, bR_ex, rt_some, sq_nx, sq_rt, sq_bk, sq_ct, sq_ex, bS_ok, bS_ex, binK1_ap, binK2_ap, tstK_b, notK_ap, andK_t, andK_f, orK_t, orK_f, ifK_t, ifK_f, andV_t, andV_f, orV_t, orV_f, notV_c, consK1_ap, consK2_ap, tupK_ok, lstK_ok, callK_ap, permK_ap, smP_int, slK1_ap, slK2_ap, slK3_ap, sl_lst, sl_scr, sl_tup, chK1_ap, chK2_ap, chK3_t, chK3_f, chK4_ap, isiK_int, isiK_str, isiK_bl, isiK_non, isiK_tup, isiK_lst, mtsK_str, mtsK2_ap, ilK_lst, ilK_scr, itK_tup, isK_str, izK_l, izK_t, retK_ap, sifK_t, sifK_f, sexprK_ap, asgK_ap, bG_ok, forK_ap, parK_ok, gK_ok, subK1_ok, subK2_ok, add_int, sub_int, mod_int, lt_int, le_int, gt_int, ge_int, eq_int, eq_str, eq_bl, eq_is, eq_si, eq_bs, eq_sb, eq_nn, ne_int, ne_str, ne_bl, isn_ap, isN_int, isN_str, isN_bl, isN_tup, isN_lst, isN_non, ix_lst, ix_tup, ix_scr, len_lst, len_tup, int_int, list_lst, list_tup, tuple_lst, tuple_tup, asB_bl, getD0, getDS, set0, setS, at0, atS, map_some', bind_some', List.length_cons, List.length_nil, List.any_cons, List.any_nil, ↓fld_ap, ↓mei_ap, ↓faug_ap, ↓c1_ap, ↓ir2_ap, ↓sfld_ap, fldK_ap, meiK2_ap, c1K_ap, sfldK_ap, sfldK2_ap, decide_true, decide_false, and_self, Nat.reduceLeDiff, Nat.reduceAdd, if_true, Int.reduceLT, Int.reduceNeg, Int.reducePow, Int.reduceToNat, Int.reduceLE, Nat.reduceLT, Int.reduceAdd, Int.reduceSub, Bool.not_true, Bool.not_false, Int.reduceEq, bne_self_eq_false, Bool.false_bne, Bool.true_bne, Int.reduceBNe, atl0, nin3, show ¬ ([116, 114, 117, 101] ∈ [[110, 111, 116], [97, 110, 100], [111, 114]]) by decide]
    rfl
  | .fnd z => by
    show endP (m_inner_parts [some (Cd.fnd z).d, none] []) = _
    simp only [m_inner_parts, Cd.d, ↓seq_ap, ↓var_ap, ↓c_ap, ↓bin_ap, ↓tst_ap, ↓not_ap, ↓and_ap, ↓or_ap, ↓if_ap, ↓andv_ap, ↓orv_ap, ↓notv_ap, ↓nil_ap, ↓cons_ap, ↓tup_ap, ↓lst_ap, ↓call_ap, ↓callP_ap, ↓callI_ap, ↓perm_ap, ↓nop_ap, ↓smp_ap, ↓sl_ap, ↓chain_ap, ↓isi_ap, ↓lc_ap, ↓lstC_ap, ↓mts_ap, ↓yes_ap, ↓il_ap, ↓it_ap, ↓is_ap, ↓ir1_ap, ↓iz_ap, ↓snil_ap, ↓ret_ap, ↓sif_ap, ↓sexpr_ap, ↓bk_ap, ↓ct_ap, ↓asg_ap, ↓for_ap, ↓par_ap, ↓gname_ap, ↓gnil_ap, ↓gcons_ap, ↓gtup_ap, ↓gsub_ap, bR_ok, bR_ex, rt_some, sq_nx, sq_rt, sq_bk, sq_ct, sq_ex, bS_ok, bS_ex, binK1_ap, binK2_ap, tstK_b, notK_ap, andK_t, andK_f, orK_t, orK_f, ifK_t, ifK_f, andV_t, andV_f, orV_t, orV_f, notV_c, consK1_ap, consK2_ap, tupK_ok, lstK_ok, callK_ap, permK_ap, smP_int, slK1_ap, slK2_ap, slK3_ap, sl_lst, sl_scr, sl_tup, chK1_ap, chK2_ap, chK3_t, chK3_f, chK4_ap, isiK_int, isiK_str, isiK_bl, isiK_non, isiK_tup, isiK_lst, mtsK_str, mtsK2_ap, ilK_lst, ilK_scr, itK_tup, isK_str, izK_l, izK_t, retK_ap, sifK_t, sifK_f, sexprK_ap, asgK_ap, bG_ok, forK_ap, parK_ok, gK_ok, subK1_ok, subK2_ok, add_int, sub_int, mod_int, lt_int, le_int, gt_int, ge_int, eq_int, eq_str, eq_bl, eq_is, eq_si, eq_bs, eq_sb, eq_nn, ne_int, ne_str, ne_bl, isn_ap, isN_int, isN_str, isN_bl, isN_tup, isN_lst, isN_non, ix_lst, ix_tup, ix_scr, len_lst, len_tup, int_int, list_lst, list_tup, tuple_lst, tuple_tup, asB_bl, getD0, getDS, set0, setS, at0, atS, map_some', bind_some', List.length_cons, List.length_nil, List.any_cons, List.any_nil, ↓fld_ap, ↓mei_ap, ↓faug_ap, ↓c1_ap, ↓ir2_ap, ↓sfld_ap, fldK_ap, meiK2_ap, c1K_ap, sfldK_ap, sfldK2_ap, decide_true, decide_false, and_self, Nat.reduceLeDiff, Nat.reduceAdd, if_true, Int.reduceLT, Int.reduceNeg, Int.reducePow, Int.reduceToNat, Int.reduceLE, Nat.reduceLT, Int.reduceAdd, Int.reduceSub, Bool.not_true, Bool.not_false, Int.reduceEq, bne_self_eq_false, Bool.false_bne, Bool.true_bne, Int.reduceBNe, atl0, nin3, show ¬ ([102, 111, 117, 110, 100] ∈ [[110, 111, 116], [97, 110, 100], [111, 114]]) by decide]
    rfl
  | .nt c => by
    have lc : lcL (mgName 1) mYes me_inner_parts_0 (rngD 1 1) [some (Cd.nt c).d, none] [] = some ([.tup [.int 1, c.d]], []) := by
      refine lcL_map (fun _ => .tup [.int 1, c.d]) (ds := rngD 1 1) fun d hd => ?_
      have : d = .int 1 := by simpa [rngD] using hd
      subst this
      refine ⟨_, rfl, rfl, ?_⟩
      simp only [me_inner_parts_0, Cd.d, ↓seq_ap, ↓var_ap, ↓c_ap, ↓bin_ap, ↓tst_ap, ↓not_ap, ↓and_ap, ↓or_ap, ↓if_ap, ↓andv_ap, ↓orv_ap, ↓notv_ap, ↓nil_ap, ↓cons_ap, ↓tup_ap, ↓lst_ap, ↓call_ap, ↓callP_ap, ↓callI_ap, ↓perm_ap, ↓nop_ap, ↓smp_ap, ↓sl_ap, ↓chain_ap, ↓isi_ap, ↓lc_ap, ↓lstC_ap, ↓mts_ap, ↓yes_ap, ↓il_ap, ↓it_ap, ↓is_ap, ↓ir1_ap, ↓iz_ap, ↓snil_ap, ↓ret_ap, ↓sif_ap, ↓sexpr_ap, ↓bk_ap, ↓ct_ap, ↓asg_ap, ↓for_ap, ↓par_ap, ↓gname_ap, ↓gnil_ap, ↓gcons_ap, ↓gtup_ap, ↓gsub_ap, bR_ok, bR_ex, rt_some, sq_nx, sq_rt, sq_bk, sq_ct, sq_ex, bS_ok, bS_ex, binK1_ap, binK2_ap, tstK_b, notK_ap, andK_t, andK_f, orK_t, orK_f, ifK_t, ifK_f, andV_t, andV_f, orV_t, orV_f, notV_c, consK1_ap, consK2_ap, tupK_ok, lstK_ok, callK_ap, permK_ap, smP_int, slK1_ap, slK2_ap, slK3_ap, sl_lst, sl_scr, sl_tup, chK1_ap, chK2_ap, chK3_t, chK3_f, chK4_ap, isiK_int, isiK_str, isiK_bl, isiK_non, isiK_tup, isiK_lst, mtsK_str, mtsK2_ap, ilK_lst, ilK_scr, itK_tup, isK_str, izK_l, izK_t, retK_ap, sifK_t, sifK_f, sexprK_ap, asgK_ap, bG_ok, forK_ap, parK_ok, gK_ok, subK1_ok, subK2_ok, add_int, sub_int, mod_int, lt_int, le_int, gt_int, ge_int, eq_int, eq_str, eq_bl, eq_is, eq_si, eq_bs, eq_sb, eq_nn, ne_int, ne_str, ne_bl, isn_ap, isN_int, isN_str, isN_bl, isN_tup, isN_lst, isN_non, ix_lst, ix_tup, ix_scr, len_lst, len_tup, int_int, list_lst, list_tup, tuple_lst, tuple_tup, asB_bl, getD0, getDS, set0, setS, at0, atS, map_some', bind_some', List.length_cons, List.length_nil, List.any_cons, List.any_nil, ↓fld_ap, ↓mei_ap, ↓faug_ap, ↓c1_ap, ↓ir2_ap, ↓sfld_ap, fldK_ap, meiK2_ap, c1K_ap, sfldK_ap, sfldK2_ap, decide_true, decide_false, and_self, Nat.reduceLeDiff, Nat.reduceAdd, if_true, Int.reduceLT, Int.reduceNeg, Int.reducePow, Int.reduceToNat, Int.reduceLE, Nat.reduceLT, Int.reduceAdd, Int.reduceSub, Bool.not_true, Bool.not_false, Int.reduceEq, bne_self_eq_false, Bool.false_bne, Bool.true_bne, Int.reduceBNe, atl1]
    have lk := lcK_ok (vs := [1]) (ε := [some (Cd.nt c).d, none]) lc (by simp)
    simp only [Cd.d] at lk
    show endP (m_inner_parts [some (Cd.nt c).d, none] []) = _
    simp only [m_inner_parts, Cd.d, ↓seq_ap, ↓var_ap, ↓c_ap, ↓bin_ap, ↓tst_ap, ↓not_ap, ↓and_ap, ↓or_ap, ↓if_ap, ↓andv_ap, ↓orv_ap, ↓notv_ap, ↓nil_ap, ↓cons_ap, ↓tup_ap, ↓lst_ap, ↓call_ap, ↓callP_ap, ↓callI_ap, ↓perm_ap, ↓nop_ap, ↓smp_ap, ↓sl_ap, ↓chain_ap, ↓isi_ap, ↓lc_ap, ↓lstC_ap, ↓mts_ap, ↓yes_ap, ↓il_ap, ↓it_ap, ↓is_ap, ↓ir1_ap, ↓iz_ap, ↓snil_ap, ↓ret_ap, ↓sif_ap, ↓sexpr_ap, ↓bk_ap, ↓ct_ap, ↓asg_ap, ↓for_ap, ↓par_ap, ↓gname_ap, ↓gnil_ap, ↓gcons_ap, ↓gtup_ap, ↓gsub_ap, bR_ok, bR_ex, rt_some, sq_nx, sq_rt, sq_bk, sq_ct, sq_ex, bS_ok, bS_ex, binK1_ap, binK2_ap, tstK_b, notK_ap, andK_t, andK_f, orK_t, orK_f, ifK_t, ifK_f, andV_t, andV_f, orV_t, orV_f, notV_c, consK1_ap, consK2_ap, tupK_ok, lstK_ok, callK_ap, permK_ap, smP_int, slK1_ap, slK2_ap, slK3_ap, sl_lst, sl_scr, sl_tup, chK1_ap, chK2_ap, chK3_t, chK3_f, chK4_ap, isiK_int, isiK_str, isiK_bl, isiK_non, isiK_tup, isiK_lst, mtsK_str, mtsK2_ap, ilK_lst, ilK_scr, itK_tup, isK_str, izK_l, izK_t, retK_ap, sifK_t, sifK_f, sexprK_ap, asgK_ap, bG_ok, forK_ap, parK_ok, gK_ok, subK1_ok, subK2_ok, add_int, sub_int, mod_int, lt_int, le_int, gt_int, ge_int, eq_int, eq_str, eq_bl, eq_is, eq_si, eq_bs, eq_sb, eq_nn, ne_int, ne_str, ne_bl, isn_ap, isN_int, isN_str, isN_bl, isN_tup, isN_lst, isN_non, ix_lst, ix_tup, ix_scr, len_lst, len_tup, int_int, list_lst, list_tup, tuple_lst, tuple_tup, asB_bl, getD0, getDS, set0, setS, at0, atS, map_some', bind_some', List.length_cons, List.length_nil, List.any_cons, List.any_nil, ↓fld_ap, ↓mei_ap, ↓faug_ap, ↓c1_ap, ↓ir2_ap, ↓sfld_ap, fldK_ap, meiK2_ap, c1K_ap, sfldK_ap, sfldK2_ap, decide_true, decide_false, and_self, Nat.reduceLeDiff, Nat.reduceAdd, if_true, Int.reduceLT, Int.reduceNeg, Int.reducePow, Int.reduceToNat, Int.reduceLE, Nat.reduceLT, Int.reduceAdd, Int.reduceSub, Bool.not_true, Bool.not_false, Int.reduceEq, bne_self_eq_false, Bool.false_bne, Bool.true_bne, Int.reduceBNe, atl0, nin3, len2, show ([110, 111, 116] ∈ [[110, 111, 116], [97, 110, 100], [111, 114]]) by decide, ir2K_ok (i := 1) (j := 2) (by decide), lk]
    refine endP_ok ?_
    show (((true && (PD.noRef c.d && true)) && true)) = true
    rw [c.noRef]; rfl
  | .bin j c d => by
    have lc : lcL (mgName 1) mYes me_inner_parts_0 (rngD 1 2) [some (Cd.bin j c d).d, none] [] = some ([.tup [.int 1, c.d], .tup [.int 2, d.d]], []) := by
      refine lcL_map (fun x => match x with | .int 1 => .tup [.int 1, c.d] | _ => .tup [.int 2, d.d]) (ds := rngD 1 2) fun x hx => ?_
      have : x = .int 1 ∨ x = .int 2 := by
        have e : rngD 1 2 = [.int 1, .int 2] := rfl
        rw [e] at hx
        simpa using hx
      rcases this with rfl | rfl
      · refine ⟨_, rfl, rfl, ?_⟩
        simp only [me_inner_parts_0, Cd.d, ↓seq_ap, ↓var_ap, ↓c_ap, ↓bin_ap, ↓tst_ap, ↓not_ap, ↓and_ap, ↓or_ap, ↓if_ap, ↓andv_ap, ↓orv_ap, ↓notv_ap, ↓nil_ap, ↓cons_ap, ↓tup_ap, ↓lst_ap, ↓call_ap, ↓callP_ap, ↓callI_ap, ↓perm_ap, ↓nop_ap, ↓smp_ap, ↓sl_ap, ↓chain_ap, ↓isi_ap, ↓lc_ap, ↓lstC_ap, ↓mts_ap, ↓yes_ap, ↓il_ap, ↓it_ap, ↓is_ap, ↓ir1_ap, ↓iz_ap, ↓snil_ap, ↓ret_ap, ↓sif_ap, ↓sexpr_ap, ↓bk_ap, ↓ct_ap, ↓asg_ap, ↓for_ap, ↓par_ap, ↓gname_ap, ↓gnil_ap, ↓gcons_ap, ↓gtup_ap, ↓gsub_ap, bR_ok, bR_ex, rt_some, sq_nx, sq_rt, sq_bk, sq_ct, sq_ex, bS_ok, bS_ex, binK1_ap, binK2_ap, tstK_b, notK_ap, andK_t, andK_f, orK_t, orK_f, ifK_t, ifK_f, andV_t, andV_f, orV_t, orV_f, notV_c, consK1_ap, consK2_ap, tupK_ok, lstK_ok, callK_ap, permK_ap, smP_int, slK1_ap, slK2_ap, slK3_ap, sl_lst, sl_scr, sl_tup, chK1_ap, chK2_ap, chK3_t, chK3_f, chK4_ap, isiK_int, isiK_str, isiK_bl, isiK_non, isiK_tup, isiK_lst, mtsK_str, mtsK2_ap, ilK_lst, ilK_scr, itK_tup, isK_str, izK_l, izK_t, retK_ap, sifK_t, sifK_f, sexprK_ap, asgK_ap, bG_ok, forK_ap, parK_ok, gK_ok, subK1_ok, subK2_ok, add_int, sub_int, mod_int, lt_int, le_int, gt_int, ge_int, eq_int, eq_str, eq_bl, eq_is, eq_si, eq_bs, eq_sb, eq_nn, ne_int, ne_str, ne_bl, isn_ap, isN_int, isN_str, isN_bl, isN_tup, isN_lst, isN_non, ix_lst, ix_tup, ix_scr, len_lst, len_tup, int_int, list_lst, list_tup, tuple_lst, tuple_tup, asB_bl, getD0, getDS, set0, setS, at0, atS, map_some', bind_some', List.length_cons, List.length_nil, List.any_cons, List.any_nil, ↓fld_ap, ↓mei_ap, ↓faug_ap, ↓c1_ap, ↓ir2_ap, ↓sfld_ap, fldK_ap, meiK2_ap, c1K_ap, sfldK_ap, sfldK2_ap, decide_true, decide_false, and_self, Nat.reduceLeDiff, Nat.reduceAdd, if_true, Int.reduceLT, Int.reduceNeg, Int.reducePow, Int.reduceToNat, Int.reduceLE, Nat.reduceLT, Int.reduceAdd, Int.reduceSub, Bool.not_true, Bool.not_false, Int.reduceEq, bne_self_eq_false, Bool.false_bne, Bool.true_bne, Int.reduceBNe, atl1]
      · refine ⟨_, rfl, rfl, ?_⟩
        simp only [me_inner_parts_0, Cd.d, ↓seq_ap, ↓var_ap, ↓c_ap, ↓bin_ap, ↓tst_ap, ↓not_ap, ↓and_ap, ↓or_ap, ↓if_ap, ↓andv_ap, ↓orv_ap, ↓notv_ap, ↓nil_ap, ↓cons_ap, ↓tup_ap, ↓lst_ap, ↓call_ap, ↓callP_ap, ↓callI_ap, ↓perm_ap, ↓nop_ap, ↓smp_ap, ↓sl_ap, ↓chain_ap, ↓isi_ap, ↓lc_ap, ↓lstC_ap, ↓mts_ap, ↓yes_ap, ↓il_ap, ↓it_ap, ↓is_ap, ↓ir1_ap, ↓iz_ap, ↓snil_ap, ↓ret_ap, ↓sif_ap, ↓sexpr_ap, ↓bk_ap, ↓ct_ap, ↓asg_ap, ↓for_ap, ↓par_ap, ↓gname_ap, ↓gnil_ap, ↓gcons_ap, ↓gtup_ap, ↓gsub_ap, bR_ok, bR_ex, rt_some, sq_nx, sq_rt, sq_bk, sq_ct, sq_ex, bS_ok, bS_ex, binK1_ap, binK2_ap, tstK_b, notK_ap, andK_t, andK_f, orK_t, orK_f, ifK_t, ifK_f, andV_t, andV_f, orV_t, orV_f, notV_c, consK1_ap, consK2_ap, tupK_ok, lstK_ok, callK_ap, permK_ap, smP_int, slK1_ap, slK2_ap, slK3_ap, sl_lst, sl_scr, sl_tup, chK1_ap, chK2_ap, chK3_t, chK3_f, chK4_ap, isiK_int, isiK_str, isiK_bl, isiK_non, isiK_tup, isiK_lst, mtsK_str, mtsK2_ap, ilK_lst, ilK_scr, itK_tup, isK_str, izK_l, izK_t, retK_ap, sifK_t, sifK_f, sexprK_ap, asgK_ap, bG_ok, forK_ap, parK_ok, gK_ok, subK1_ok, subK2_ok, add_int, sub_int, mod_int, lt_int, le_int, gt_int, ge_int, eq_int, eq_str, eq_bl, eq_is, eq_si, eq_bs, eq_sb, eq_nn, ne_int, ne_str, ne_bl, isn_ap, isN_int, isN_str, isN_bl, isN_tup, isN_lst, isN_non, ix_lst, ix_tup, ix_scr, len_lst, len_tup, int_int, list_lst, list_tup, tuple_lst, tuple_tup, asB_bl, getD0, getDS, set0, setS, at0, atS, map_some', bind_some', List.length_cons, List.length_nil, List.any_cons, List.any_nil, ↓fld_ap, ↓mei_ap, ↓faug_ap, ↓c1_ap, ↓ir2_ap, ↓sfld_ap, fldK_ap, meiK2_ap, c1K_ap, sfldK_ap, sfldK2_ap, decide_true, decide_false, and_self, Nat.reduceLeDiff, Nat.reduceAdd, if_true, Int.reduceLT, Int.reduceNeg, Int.reducePow, Int.reduceToNat, Int.reduceLE, Nat.reduceLT, Int.reduceAdd, Int.reduceSub, Bool.not_true, Bool.not_false, Int.reduceEq, bne_self_eq_false, Bool.false_bne, Bool.true_bne, Int.reduceBNe, atl2]
    have lk := lcK_ok (vs := [1]) (ε := [some (Cd.bin j c d).d, none]) lc (by simp)
    simp only [Cd.d] at lk
    show endP (m_inner_parts [some (Cd.bin j c d).d, none] []) = _
    simp only [m_inner_parts, Cd.d, ↓seq_ap, ↓var_ap, ↓c_ap, ↓bin_ap, ↓tst_ap, ↓not_ap, ↓and_ap, ↓or_ap, ↓if_ap, ↓andv_ap, ↓orv_ap, ↓notv_ap, ↓nil_ap, ↓cons_ap, ↓tup_ap, ↓lst_ap, ↓call_ap, ↓callP_ap, ↓callI_ap, ↓perm_ap, ↓nop_ap, ↓smp_ap, ↓sl_ap, ↓chain_ap, ↓isi_ap, ↓lc_ap, ↓lstC_ap, ↓mts_ap, ↓yes_ap, ↓il_ap, ↓it_ap, ↓is_ap, ↓ir1_ap, ↓iz_ap, ↓snil_ap, ↓ret_ap, ↓sif_ap, ↓sexpr_ap, ↓bk_ap, ↓ct_ap, ↓asg_ap, ↓for_ap, ↓par_ap, ↓gname_ap, ↓gnil_ap, ↓gcons_ap, ↓gtup_ap, ↓gsub_ap, bR_ok, bR_ex, rt_some, sq_nx, sq_rt, sq_bk, sq_ct, sq_ex, bS_ok, bS_ex, binK1_ap, binK2_ap, tstK_b, notK_ap, andK_t, andK_f, orK_t, orK_f, ifK_t, ifK_f, andV_t, andV_f, orV_t, orV_f, notV_c, consK1_ap, consK2_ap, tupK_ok, lstK_ok, callK_ap, permK_ap, smP_int, slK1_ap, slK2_ap, slK3_ap, sl_lst, sl_scr, sl_tup, chK1_ap, chK2_ap, chK3_t, chK3_f, chK4_ap, isiK_int, isiK_str, isiK_bl, isiK_non, isiK_tup, isiK_lst, mtsK_str, mtsK2_ap, ilK_lst, ilK_scr, itK_tup, isK_str, izK_l, izK_t, retK_ap, sifK_t, sifK_f, sexprK_ap, asgK_ap, bG_ok, forK_ap, parK_ok, gK_ok, subK1_ok, subK2_ok, add_int, sub_int, mod_int, lt_int, le_int, gt_int, ge_int, eq_int, eq_str, eq_bl, eq_is, eq_si, eq_bs, eq_sb, eq_nn, ne_int, ne_str, ne_bl, isn_ap, isN_int, isN_str, isN_bl, isN_tup, isN_lst, isN_non, ix_lst, ix_tup, ix_scr, len_lst, len_tup, int_int, list_lst, list_tup, tuple_lst, tuple_tup, asB_bl, getD0, getDS, set0, setS, at0, atS, map_some', bind_some', List.length_cons, List.length_nil, List.any_cons, List.any_nil, ↓fld_ap, ↓mei_ap, ↓faug_ap, ↓c1_ap, ↓ir2_ap, ↓sfld_ap, fldK_ap, meiK2_ap, c1K_ap, sfldK_ap, sfldK2_ap, decide_true, decide_false, and_self, Nat.reduceLeDiff, Nat.reduceAdd, if_true, Int.reduceLT, Int.reduceNeg, Int.reducePow, Int.reduceToNat, Int.reduceLE, Nat.reduceLT, Int.reduceAdd, Int.reduceSub, Bool.not_true, Bool.not_false, Int.reduceEq, bne_self_eq_false, Bool.false_bne, Bool.true_bne, Int.reduceBNe, atl0, nin3, len3, jw_in, ir2K_ok (i := 1) (j := 3) (by decide), lk]
    refine endP_ok ?_
    show (((true && (PD.noRef c.d && true)) && ((true && (PD.noRef d.d && true)) && true))) = true
    rw [c.noRef, d.noRef]; rfl
/-! ### wrong_path -/
theorem ints_go : ∀ ps : List Int, PD.noRef.go (ps.map D.int) = true
  | [] => rfl
  | p :: ps => by
    show (true && PD.noRef.go (ps.map D.int)) = true
    rw [ints_go ps]; rfl
theorem wp_go {c : Cd} (ps : List Int) : PD.noRef.go [c.d, .tup (ps.map .int)] = true := by
  show (PD.noRef c.d && (PD.noRef.go (ps.map D.int) && true)) = true
  rw [c.noRef, ints_go]; rfl
theorem wrong_none : ∀ (c : Cd) (f : Nat) (ps : List Int), c.ok = true → ps.length + c.dep ≤ 6 → c.dep ≤ f → F_wrong_path_ f [c.d, .tup (ps.map .int)] = some (.ok .non) := by
  have key : ∀ (c : Cd) (f : Nat) (ps : List Int), c.ok = true → ps.length + c.dep ≤ 6 →
      forL (mgTup 2 (mgCons (mgName 2) (mgCons (mgName 3) mgNil))) (mb_wrong_path_0 (F_wrong_path_ f)) c.inn [some c.d, some (.tup (ps.map .int)), none, none, none] [] = some (.nx [some c.d, some (.tup (ps.map .int)), none, none, none], []) ∨
        (∃ a b e, forL (mgTup 2 (mgCons (mgName 2) (mgCons (mgName 3) mgNil))) (mb_wrong_path_0 (F_wrong_path_ f)) c.inn [some c.d, some (.tup (ps.map .int)), none, none, none] [] = some (.nx [some c.d, some (.tup (ps.map .int)), a, b, e], [])) →
      F_wrong_path_ (f + 1) [c.d, .tup (ps.map .int)] = some (.ok .non) := by
    intro c f ps hc hd hl
    have hp := c.dep_pos
    have hn : ¬ (6 : Int) ≤ ((ps.map D.int).length : Int) := by rw [List.length_map]; omega
    have hf := callPK_ok (F := F_has_form) (h := []) (form_ok hc) (go1 c.noRef)
    have hi := callPK_ok (F := F_inner_parts) (h := []) (inner_ok c) (go1 c.noRef)
    have hl' : ∃ a b e, forL (mgTup 2 (mgCons (mgName 2) (mgCons (mgName 3) mgNil))) (mb_wrong_path_0 (F_wrong_path_ f)) c.inn [some c.d, some (.tup (ps.map .int)), none, none, none] [] = some (.nx [some c.d, some (.tup (ps.map .int)), a, b, e], []) := by
      rcases hl with h | h
      · exact ⟨_, _, _, h⟩
      · exact h
    obtain ⟨a, b, e, hl⟩ := hl'
    show endP (m_wrong_path (F_wrong_path_ f) [some c.d, some (.tup (ps.map .int)), none, none, none] []) = _
    simp only [m_wrong_path, ↓seq_ap, ↓var_ap, ↓c_ap, ↓bin_ap, ↓tst_ap, ↓not_ap, ↓and_ap, ↓or_ap, ↓if_ap, ↓andv_ap, ↓orv_ap, ↓notv_ap, ↓nil_ap, ↓cons_ap, ↓tup_ap, ↓lst_ap, ↓call_ap, ↓callP_ap, ↓callI_ap, ↓perm_ap, ↓nop_ap, ↓smp_ap, ↓sl_ap, ↓chain_ap, ↓isi_ap, ↓lc_ap, ↓lstC_ap, ↓mts_ap, ↓yes_ap, ↓il_ap, ↓it_ap, ↓is_ap, ↓ir1_ap, ↓iz_ap, ↓snil_ap, ↓ret_ap, ↓sif_ap, ↓sexpr_ap, ↓bk_ap, ↓ct_ap, ↓asg_ap, ↓for_ap, ↓par_ap, ↓gname_ap, ↓gnil_ap, ↓gcons_ap, ↓gtup_ap, ↓gsub_ap, bR_ok, bR_ex, rt_some, sq_nx, sq_rt, sq_bk, sq_ct, sq_ex, bS_ok, bS_ex, binK1_ap, binK2_ap, tstK_b, notK_ap, andK_t, andK_f, orK_t, orK_f, ifK_t, ifK_f, andV_t, andV_f, orV_t, orV_f, notV_c, consK1_ap, consK2_ap, tupK_ok, lstK_ok, callK_ap, permK_ap, smP_int, slK1_ap, slK2_ap, slK3_ap, sl_lst, sl_scr, sl_tup, chK1_ap, chK2_ap, chK3_t, chK3_f, chK4_ap, isiK_int, isiK_str, isiK_bl, isiK_non, isiK_tup, isiK_lst, mtsK_str, mtsK2_ap, ilK_lst, ilK_scr, itK_tup, isK_str, izK_l, izK_t, retK_ap, sifK_t, sifK_f, sexprK_ap, asgK_ap, bG_ok, forK_ap, parK_ok, gK_ok, subK1_ok, subK2_ok, add_int, sub_int, mod_int, lt_int, le_int, gt_int, ge_int, eq_int, eq_str, eq_bl, eq_is, eq_si, eq_bs, eq_sb, eq_nn, ne_int, ne_str, ne_bl, isn_ap, isN_int, isN_str, isN_bl, isN_tup, isN_lst, isN_non, ix_lst, ix_tup, ix_scr, len_lst, len_tup, int_int, list_lst, list_tup, tuple_lst, tuple_tup, asB_bl, getD0, getDS, set0, setS, at0, atS, map_some', bind_some', List.length_cons, List.length_nil, List.any_cons, List.any_nil, ↓fld_ap, ↓mei_ap, ↓faug_ap, ↓c1_ap, ↓ir2_ap, ↓sfld_ap, fldK_ap, meiK2_ap, c1K_ap, sfldK_ap, sfldK2_ap, decide_true, decide_false, and_self, Nat.reduceLeDiff, Nat.reduceAdd, if_true, Int.reduceLT, Int.reduceNeg, Int.reducePow, Int.reduceToNat, Int.reduceLE, Nat.reduceLT, Int.reduceAdd, Int.reduceSub, Bool.not_true, Bool.not_false, Int.reduceEq, bne_self_eq_false, Bool.false_bne, Bool.true_bne, Int.reduceBNe, g_MOST_DEPTH, hn, hf, hi, hl]
    rfl
  have turn : ∀ (c : Cd) (f : Nat) (ps : List Int) (i : Int) (x : Option D) (a b e : Option D), F_wrong_path_ f [c.d, .tup ((ps ++ [i]).map .int)] = some (.ok .non) → ps.length ≤ 6 →
      mb_wrong_path_0 (F_wrong_path_ f) [x, some (.tup (ps.map .int)), some (.int i), some c.d, e] [] = some (.nx [x, some (.tup (ps.map .int)), some (.int i), some c.d, some .non], []) := by
    intro c f ps i x a b e hw hl
    have hk := callPK_ok (h := []) hw (wp_go (c := c) (ps ++ [i]))
    have hs : mStar (mVar 1) (mCons (mVar 2) mNil) [x, some (.tup (ps.map .int)), some (.int i), some c.d, e] [] = some (.ok (ps.map .int ++ [.int i]), []) := by
      rw [star_ap (x := .tup (ps.map .int)) (xs := ps.map .int) rfl rfl]
      rfl
    have ht : tupK (ps.map .int ++ [.int i]) [] = some (.ok (.tup ((ps ++ [i]).map .int)), []) := by
      rw [tupK_ok (by simp; omega)]
      simp
    simp only [mb_wrong_path_0, ↓seq_ap, ↓var_ap, ↓c_ap, ↓bin_ap, ↓tst_ap, ↓not_ap, ↓and_ap, ↓or_ap, ↓if_ap, ↓andv_ap, ↓orv_ap, ↓notv_ap, ↓nil_ap, ↓cons_ap, ↓tup_ap, ↓lst_ap, ↓call_ap, ↓callP_ap, ↓callI_ap, ↓perm_ap, ↓nop_ap, ↓smp_ap, ↓sl_ap, ↓chain_ap, ↓isi_ap, ↓lc_ap, ↓lstC_ap, ↓mts_ap, ↓yes_ap, ↓il_ap, ↓it_ap, ↓is_ap, ↓ir1_ap, ↓iz_ap, ↓snil_ap, ↓ret_ap, ↓sif_ap, ↓sexpr_ap, ↓bk_ap, ↓ct_ap, ↓asg_ap, ↓for_ap, ↓par_ap, ↓gname_ap, ↓gnil_ap, ↓gcons_ap, ↓gtup_ap, ↓gsub_ap, bR_ok, bR_ex, rt_some, sq_nx, sq_rt, sq_bk, sq_ct, sq_ex, bS_ok, bS_ex, binK1_ap, binK2_ap, tstK_b, notK_ap, andK_t, andK_f, orK_t, orK_f, ifK_t, ifK_f, andV_t, andV_f, orV_t, orV_f, notV_c, consK1_ap, consK2_ap, tupK_ok, lstK_ok, callK_ap, permK_ap, smP_int, slK1_ap, slK2_ap, slK3_ap, sl_lst, sl_scr, sl_tup, chK1_ap, chK2_ap, chK3_t, chK3_f, chK4_ap, isiK_int, isiK_str, isiK_bl, isiK_non, isiK_tup, isiK_lst, mtsK_str, mtsK2_ap, ilK_lst, ilK_scr, itK_tup, isK_str, izK_l, izK_t, retK_ap, sifK_t, sifK_f, sexprK_ap, asgK_ap, bG_ok, forK_ap, parK_ok, gK_ok, subK1_ok, subK2_ok, add_int, sub_int, mod_int, lt_int, le_int, gt_int, ge_int, eq_int, eq_str, eq_bl, eq_is, eq_si, eq_bs, eq_sb, eq_nn, ne_int, ne_str, ne_bl, isn_ap, isN_int, isN_str, isN_bl, isN_tup, isN_lst, isN_non, ix_lst, ix_tup, ix_scr, len_lst, len_tup, int_int, list_lst, list_tup, tuple_lst, tuple_tup, asB_bl, getD0, getDS, set0, setS, at0, atS, map_some', bind_some', List.length_cons, List.length_nil, List.any_cons, List.any_nil, ↓fld_ap, ↓mei_ap, ↓faug_ap, ↓c1_ap, ↓ir2_ap, ↓sfld_ap, fldK_ap, meiK2_ap, c1K_ap, sfldK_ap, sfldK2_ap, decide_true, decide_false, and_self, Nat.reduceLeDiff, Nat.reduceAdd, if_true, Int.reduceLT, Int.reduceNeg, Int.reducePow, Int.reduceToNat, Int.reduceLE, Nat.reduceLT, Int.reduceAdd, Int.reduceSub, Bool.not_true, Bool.not_false, Int.reduceEq, bne_self_eq_false, Bool.false_bne, Bool.true_bne, Int.reduceBNe, hs, ht, hk]
  intro c
  induction c with
  | cmp o a b =>
    intro f ps hc hd hf
    obtain ⟨f, rfl⟩ : ∃ m, f = m + 1 := ⟨f - 1, by have : 1 ≤ f := hf; omega⟩
    exact key (.cmp o a b) f ps hc hd (.inl rfl)
  | tru =>
    intro f ps hc hd hf
    obtain ⟨f, rfl⟩ : ∃ m, f = m + 1 := ⟨f - 1, by have : 1 ≤ f := hf; omega⟩
    exact key .tru f ps hc hd (.inl rfl)
  | fnd z =>
    intro f ps hc hd hf
    obtain ⟨f, rfl⟩ : ∃ m, f = m + 1 := ⟨f - 1, by have : 1 ≤ f := hf; omega⟩
    exact key (.fnd z) f ps hc hd (.inl rfl)
  | nt c ih =>
    intro f ps hc hd hf
    have hd' : ps.length + (c.dep + 1) ≤ 6 := hd
    have hf' : c.dep + 1 ≤ f := hf
    obtain ⟨f, rfl⟩ : ∃ m, f = m + 1 := ⟨f - 1, by omega⟩
    have w := ih f (ps ++ [1]) hc (by simp; omega) (by omega)
    refine key (.nt c) f ps hc hd (.inr ⟨some (.int 1), some c.d, some .non, ?_⟩)
    rw [show (Cd.nt c).inn = [.tup [.int 1, c.d]] from rfl, forL_nx (ε1 := [some (Cd.nt c).d, some (.tup (ps.map .int)), some (.int 1), some c.d, none]) (h1 := []) rfl (turn c f ps 1 _ none none none w (by omega)), forL_nil]
  | bin j c d ihc ihd =>
    intro f ps hc hd hf
    have hc' := Bool.and_eq_true_iff.mp (show (c.ok && d.ok) = true from hc)
    have hd' : ps.length + (max c.dep d.dep + 1) ≤ 6 := hd
    have hf' : max c.dep d.dep + 1 ≤ f := hf
    obtain ⟨f, rfl⟩ : ∃ m, f = m + 1 := ⟨f - 1, by omega⟩
    have w1 := ihc f (ps ++ [1]) hc'.1 (by simp; omega) (by omega)
    have w2 := ihd f (ps ++ [2]) hc'.2 (by simp; omega) (by omega)
    refine key (.bin j c d) f ps hc hd (.inr ⟨some (.int 2), some d.d, some .non, ?_⟩)
    rw [show (Cd.bin j c d).inn = [.tup [.int 1, c.d], .tup [.int 2, d.d]] from rfl, forL_nx (ε1 := [some (Cd.bin j c d).d, some (.tup (ps.map .int)), some (.int 1), some c.d, none]) (h1 := []) rfl (turn c f ps 1 _ none none none w1 (by omega)),
      forL_nx (ε1 := [some (Cd.bin j c d).d, some (.tup (ps.map .int)), some (.int 2), some d.d, some .non]) (h1 := []) rfl (turn d f ps 2 _ none none _ w2 (by omega)), forL_nil]
theorem isCond_ok {c : Cd} (h : c.ok = true) (hd : c.dep ≤ 6) : F_is_condition [c.d] = some (.ok (.bl true)) := by
  have w := callPK_ok (F := F_wrong_path) (h := []) (wrong_none c 12 [] h (by simpa using hd) (by omega)) (wp_go [])
  show endP (m_is_condition [some c.d] []) = _
  simp only [List.map_nil] at w
  simp only [m_is_condition, ↓seq_ap, ↓var_ap, ↓c_ap, ↓bin_ap, ↓tst_ap, ↓not_ap, ↓and_ap, ↓or_ap, ↓if_ap, ↓andv_ap, ↓orv_ap, ↓notv_ap, ↓nil_ap, ↓cons_ap, ↓tup_ap, ↓lst_ap, ↓call_ap, ↓callP_ap, ↓callI_ap, ↓perm_ap, ↓nop_ap, ↓smp_ap, ↓sl_ap, ↓chain_ap, ↓isi_ap, ↓lc_ap, ↓lstC_ap, ↓mts_ap, ↓yes_ap, ↓il_ap, ↓it_ap, ↓is_ap, ↓ir1_ap, ↓iz_ap, ↓snil_ap, ↓ret_ap, ↓sif_ap, ↓sexpr_ap, ↓bk_ap, ↓ct_ap, ↓asg_ap, ↓for_ap, ↓par_ap, ↓gname_ap, ↓gnil_ap, ↓gcons_ap, ↓gtup_ap, ↓gsub_ap, bR_ok, bR_ex, rt_some, sq_nx, sq_rt, sq_bk, sq_ct, sq_ex, bS_ok, bS_ex, binK1_ap, binK2_ap, tstK_b, notK_ap, andK_t, andK_f, orK_t, orK_f, ifK_t, ifK_f, andV_t, andV_f, orV_t, orV_f, notV_c, consK1_ap, consK2_ap, tupK_ok, lstK_ok, callK_ap, permK_ap, smP_int, slK1_ap, slK2_ap, slK3_ap, sl_lst, sl_scr, sl_tup, chK1_ap, chK2_ap, chK3_t, chK3_f, chK4_ap, isiK_int, isiK_str, isiK_bl, isiK_non, isiK_tup, isiK_lst, mtsK_str, mtsK2_ap, ilK_lst, ilK_scr, itK_tup, isK_str, izK_l, izK_t, retK_ap, sifK_t, sifK_f, sexprK_ap, asgK_ap, bG_ok, forK_ap, parK_ok, gK_ok, subK1_ok, subK2_ok, add_int, sub_int, mod_int, lt_int, le_int, gt_int, ge_int, eq_int, eq_str, eq_bl, eq_is, eq_si, eq_bs, eq_sb, eq_nn, ne_int, ne_str, ne_bl, isn_ap, isN_int, isN_str, isN_bl, isN_tup, isN_lst, isN_non, ix_lst, ix_tup, ix_scr, len_lst, len_tup, int_int, list_lst, list_tup, tuple_lst, tuple_tup, asB_bl, getD0, getDS, set0, setS, at0, atS, map_some', bind_some', List.length_cons, List.length_nil, List.any_cons, List.any_nil, ↓fld_ap, ↓mei_ap, ↓faug_ap, ↓c1_ap, ↓ir2_ap, ↓sfld_ap, fldK_ap, meiK2_ap, c1K_ap, sfldK_ap, sfldK2_ap, decide_true, decide_false, and_self, Nat.reduceLeDiff, Nat.reduceAdd, if_true, Int.reduceLT, Int.reduceNeg, Int.reducePow, Int.reduceToNat, Int.reduceLE, Nat.reduceLT, Int.reduceAdd, Int.reduceSub, Bool.not_true, Bool.not_false, Int.reduceEq, bne_self_eq_false, Bool.false_bne, Bool.true_bne, Int.reduceBNe, w]
  rfl
theorem check_ok {c : Cd} (h : c.ok = true) (hd : c.dep ≤ 6) : F_check_condition [c.d] = some (.ok .non) := by
  have w := callPK_ok (F := F_wrong_path) (h := []) (wrong_none c 12 [] h (by simpa using hd) (by omega)) (wp_go [])
  show endP (m_check_condition [some c.d, none] []) = _
  simp only [List.map_nil] at w
  simp only [m_check_condition, ↓seq_ap, ↓var_ap, ↓c_ap, ↓bin_ap, ↓tst_ap, ↓not_ap, ↓and_ap, ↓or_ap, ↓if_ap, ↓andv_ap, ↓orv_ap, ↓notv_ap, ↓nil_ap, ↓cons_ap, ↓tup_ap, ↓lst_ap, ↓call_ap, ↓callP_ap, ↓callI_ap, ↓perm_ap, ↓nop_ap, ↓smp_ap, ↓sl_ap, ↓chain_ap, ↓isi_ap, ↓lc_ap, ↓lstC_ap, ↓mts_ap, ↓yes_ap, ↓il_ap, ↓it_ap, ↓is_ap, ↓ir1_ap, ↓iz_ap, ↓snil_ap, ↓ret_ap, ↓sif_ap, ↓sexpr_ap, ↓bk_ap, ↓ct_ap, ↓asg_ap, ↓for_ap, ↓par_ap, ↓gname_ap, ↓gnil_ap, ↓gcons_ap, ↓gtup_ap, ↓gsub_ap, bR_ok, bR_ex, rt_some, sq_nx, sq_rt, sq_bk, sq_ct, sq_ex, bS_ok, bS_ex, binK1_ap, binK2_ap, tstK_b, notK_ap, andK_t, andK_f, orK_t, orK_f, ifK_t, ifK_f, andV_t, andV_f, orV_t, orV_f, notV_c, consK1_ap, consK2_ap, tupK_ok, lstK_ok, callK_ap, permK_ap, smP_int, slK1_ap, slK2_ap, slK3_ap, sl_lst, sl_scr, sl_tup, chK1_ap, chK2_ap, chK3_t, chK3_f, chK4_ap, isiK_int, isiK_str, isiK_bl, isiK_non, isiK_tup, isiK_lst, mtsK_str, mtsK2_ap, ilK_lst, ilK_scr, itK_tup, isK_str, izK_l, izK_t, retK_ap, sifK_t, sifK_f, sexprK_ap, asgK_ap, bG_ok, forK_ap, parK_ok, gK_ok, subK1_ok, subK2_ok, add_int, sub_int, mod_int, lt_int, le_int, gt_int, ge_int, eq_int, eq_str, eq_bl, eq_is, eq_si, eq_bs, eq_sb, eq_nn, ne_int, ne_str, ne_bl, isn_ap, isN_int, isN_str, isN_bl, isN_tup, isN_lst, isN_non, ix_lst, ix_tup, ix_scr, len_lst, len_tup, int_int, list_lst, list_tup, tuple_lst, tuple_tup, asB_bl, getD0, getDS, set0, setS, at0, atS, map_some', bind_some', List.length_cons, List.length_nil, List.any_cons, List.any_nil, ↓fld_ap, ↓mei_ap, ↓faug_ap, ↓c1_ap, ↓ir2_ap, ↓sfld_ap, fldK_ap, meiK2_ap, c1K_ap, sfldK_ap, sfldK2_ap, decide_true, decide_false, and_self, Nat.reduceLeDiff, Nat.reduceAdd, if_true, Int.reduceLT, Int.reduceNeg, Int.reducePow, Int.reduceToNat, Int.reduceLE, Nat.reduceLT, Int.reduceAdd, Int.reduceSub, Bool.not_true, Bool.not_false, Int.reduceEq, bne_self_eq_false, Bool.false_bne, Bool.true_bne, Int.reduceBNe, w]
  rfl
end PV

namespace PV
open PySem PD
theorem js_step {m : M D} {ms : List (M D)} {acc z : List Nat} {ε : Ev} {h h1 : EH} (e : m ε h = some (.ok (.str z), h1)) (l : (acc ++ z).length ≤ 16777216) : jsL (m :: ms) acc ε h = jsL ms (acc ++ z) ε h1 := by
  rw [js_ap, e, bR_ok, jsK_str l]
theorem fmt_s {m : M D} {ε : Ev} {h h1 : EH} {z : List Nat} (e : m ε h = some (.ok (.str z), h1)) (l : z.length ≤ 16777216) : mFmt m ε h = some (.ok (.str z), h1) := by
  rw [fmt_ap, e, bR_ok, fmtK_ap, fmt_str l]; rfl
/-! ### the text -/
theorem text_ok : ∀ (c : Cd) (f : Nat), c.ok = true → c.txt.length ≤ 16000000 → c.dep ≤ f → F_text_of_ f [c.d] = some (.ok (.str c.txt))
  | .cmp o a b, f, h, l, hf => by
    obtain ⟨f, rfl⟩ : ∃ m, f = m + 1 := ⟨f - 1, by have : 1 ≤ f := hf; omega⟩
    have h' := Bool.and_eq_true_iff.mp (show (a.ok && b.ok) = true from h)
    have ta := callPK_ok (F := F_value_text) (h := []) (vtext h'.1) (go1 a.noRef)
    have tb := callPK_ok (F := F_value_text) (h := []) (vtext h'.2) (go1 b.noRef)
    have l' : (a.txt ++ ([32] ++ (o.s ++ ([32] ++ b.txt)))).length ≤ 16000000 := l
    simp only [List.length_append, List.length_cons, List.length_nil] at l'
    have e : jsL [(mFmt (mCallP F_value_text (mCons (mBin dIx (mVar 0) (mC (.int 1))) mNil))), (mC (.str [32])), (mFmt (mC1 (dCIx kv_SIGNS) (mVar 1))), (mC (.str [32])), (mFmt (mCallP F_value_text (mCons (mBin dIx (mVar 0) (mC (.int 2))) mNil)))] [] [some (.tup [.str o.w, a.d, b.d]), some (.str o.w)] [] = some (.ok (.str (Cd.cmp o a b).txt), []) := by
      rw [js_step (z := a.txt) (h1 := []) (fmt_s (h1 := []) (by simp only [↓seq_ap, ↓var_ap, ↓c_ap, ↓bin_ap, ↓tst_ap, ↓not_ap, ↓and_ap, ↓or_ap, ↓if_ap, ↓andv_ap, ↓orv_ap, ↓notv_ap, ↓nil_ap, ↓cons_ap, ↓tup_ap, ↓lst_ap, ↓call_ap, ↓callP_ap, ↓callI_ap, ↓perm_ap, ↓nop_ap, ↓smp_ap, ↓sl_ap, ↓chain_ap, ↓isi_ap, ↓lc_ap, ↓lstC_ap, ↓mts_ap, ↓yes_ap, ↓il_ap, ↓it_ap, ↓is_ap, ↓ir1_ap, ↓iz_ap, ↓snil_ap, ↓ret_ap, ↓sif_ap, ↓sexpr_ap, ↓bk_ap, ↓ct_ap, ↓asg_ap, ↓for_ap, ↓par_ap, ↓gname_ap, ↓gnil_ap, ↓gcons_ap, ↓gtup_ap, ↓gsub_ap, bR_ok, bR_ex, rt_some, sq_nx, sq_rt, sq_bk, sq_ct, sq_ex, bS_ok, bS_ex, binK1_ap, binK2_ap, tstK_b, notK_ap, andK_t, andK_f, orK_t, orK_f, ifK_t, ifK_f, andV_t, andV_f, orV_t, orV_f, notV_c, consK1_ap, consK2_ap, tupK_ok, lstK_ok, callK_ap, permK_ap, smP_int, slK1_ap, slK2_ap, slK3_ap, sl_lst, sl_scr, sl_tup, chK1_ap, chK2_ap, chK3_t, chK3_f, chK4_ap, isiK_int, isiK_str, isiK_bl, isiK_non, isiK_tup, isiK_lst, mtsK_str, mtsK2_ap, ilK_lst, ilK_scr, itK_tup, isK_str, izK_l, izK_t, retK_ap, sifK_t, sifK_f, sexprK_ap, asgK_ap, bG_ok, forK_ap, parK_ok, gK_ok, subK1_ok, subK2_ok, add_int, sub_int, mod_int, lt_int, le_int, gt_int, ge_int, eq_int, eq_str, eq_bl, eq_is, eq_si, eq_bs, eq_sb, eq_nn, ne_int, ne_str, ne_bl, isn_ap, isN_int, isN_str, isN_bl, isN_tup, isN_lst, isN_non, ix_lst, ix_tup, ix_scr, len_lst, len_tup, int_int, list_lst, list_tup, tuple_lst, tuple_tup, asB_bl, getD0, getDS, set0, setS, at0, atS, map_some', bind_some', List.length_cons, List.length_nil, List.any_cons, List.any_nil, ↓fld_ap, ↓mei_ap, ↓faug_ap, ↓c1_ap, ↓ir2_ap, ↓sfld_ap, fldK_ap, meiK2_ap, c1K_ap, sfldK_ap, sfldK2_ap, decide_true, decide_false, and_self, Nat.reduceLeDiff, Nat.reduceAdd, if_true, Int.reduceLT, Int.reduceNeg, Int.reducePow, Int.reduceToNat, Int.reduceLE, Nat.reduceLT, Int.reduceAdd, Int.reduceSub, Bool.not_true, Bool.not_false, Int.reduceEq, bne_self_eq_false, Bool.false_bne, Bool.true_bne, Int.reduceBNe, atl1, ta]) (by omega)) (by simp; omega),
        js_step (z := [32]) (h1 := []) rfl (by simp; omega),
        js_step (z := o.s) (h1 := []) (fmt_s (h1 := []) (by simp only [↓seq_ap, ↓var_ap, ↓c_ap, ↓bin_ap, ↓tst_ap, ↓not_ap, ↓and_ap, ↓or_ap, ↓if_ap, ↓andv_ap, ↓orv_ap, ↓notv_ap, ↓nil_ap, ↓cons_ap, ↓tup_ap, ↓lst_ap, ↓call_ap, ↓callP_ap, ↓callI_ap, ↓perm_ap, ↓nop_ap, ↓smp_ap, ↓sl_ap, ↓chain_ap, ↓isi_ap, ↓lc_ap, ↓lstC_ap, ↓mts_ap, ↓yes_ap, ↓il_ap, ↓it_ap, ↓is_ap, ↓ir1_ap, ↓iz_ap, ↓snil_ap, ↓ret_ap, ↓sif_ap, ↓sexpr_ap, ↓bk_ap, ↓ct_ap, ↓asg_ap, ↓for_ap, ↓par_ap, ↓gname_ap, ↓gnil_ap, ↓gcons_ap, ↓gtup_ap, ↓gsub_ap, bR_ok, bR_ex, rt_some, sq_nx, sq_rt, sq_bk, sq_ct, sq_ex, bS_ok, bS_ex, binK1_ap, binK2_ap, tstK_b, notK_ap, andK_t, andK_f, orK_t, orK_f, ifK_t, ifK_f, andV_t, andV_f, orV_t, orV_f, notV_c, consK1_ap, consK2_ap, tupK_ok, lstK_ok, callK_ap, permK_ap, smP_int, slK1_ap, slK2_ap, slK3_ap, sl_lst, sl_scr, sl_tup, chK1_ap, chK2_ap, chK3_t, chK3_f, chK4_ap, isiK_int, isiK_str, isiK_bl, isiK_non, isiK_tup, isiK_lst, mtsK_str, mtsK2_ap, ilK_lst, ilK_scr, itK_tup, isK_str, izK_l, izK_t, retK_ap, sifK_t, sifK_f, sexprK_ap, asgK_ap, bG_ok, forK_ap, parK_ok, gK_ok, subK1_ok, subK2_ok, add_int, sub_int, mod_int, lt_int, le_int, gt_int, ge_int, eq_int, eq_str, eq_bl, eq_is, eq_si, eq_bs, eq_sb, eq_nn, ne_int, ne_str, ne_bl, isn_ap, isN_int, isN_str, isN_bl, isN_tup, isN_lst, isN_non, ix_lst, ix_tup, ix_scr, len_lst, len_tup, int_int, list_lst, list_tup, tuple_lst, tuple_tup, asB_bl, getD0, getDS, set0, setS, at0, atS, map_some', bind_some', List.length_cons, List.length_nil, List.any_cons, List.any_nil, ↓fld_ap, ↓mei_ap, ↓faug_ap, ↓c1_ap, ↓ir2_ap, ↓sfld_ap, fldK_ap, meiK2_ap, c1K_ap, sfldK_ap, sfldK2_ap, decide_true, decide_false, and_self, Nat.reduceLeDiff, Nat.reduceAdd, if_true, Int.reduceLT, Int.reduceNeg, Int.reducePow, Int.reduceToNat, Int.reduceLE, Nat.reduceLT, Int.reduceAdd, Int.reduceSub, Bool.not_true, Bool.not_false, Int.reduceEq, bne_self_eq_false, Bool.false_bne, Bool.true_bne, Int.reduceBNe, cix_cw]) (by omega)) (by simp; omega),
        js_step (z := [32]) (h1 := []) rfl (by simp; omega),
        js_step (z := b.txt) (h1 := []) (fmt_s (h1 := []) (by simp only [↓seq_ap, ↓var_ap, ↓c_ap, ↓bin_ap, ↓tst_ap, ↓not_ap, ↓and_ap, ↓or_ap, ↓if_ap, ↓andv_ap, ↓orv_ap, ↓notv_ap, ↓nil_ap, ↓cons_ap, ↓tup_ap, ↓lst_ap, ↓call_ap, ↓callP_ap, ↓callI_ap, ↓perm_ap, ↓nop_ap, ↓smp_ap, ↓sl_ap, ↓chain_ap, ↓isi_ap, ↓lc_ap, ↓lstC_ap, ↓mts_ap, ↓yes_ap, ↓il_ap, ↓it_ap, ↓is_ap, ↓ir1_ap, ↓iz_ap, ↓snil_ap, ↓ret_ap, ↓sif_ap, ↓sexpr_ap, ↓bk_ap, ↓ct_ap, ↓asg_ap, ↓for_ap, ↓par_ap, ↓gname_ap, ↓gnil_ap, ↓gcons_ap, ↓gtup_ap, ↓gsub_ap, bR_ok, bR_ex, rt_some, sq_nx, sq_rt, sq_bk, sq_ct, sq_ex, bS_ok, bS_ex, binK1_ap, binK2_ap, tstK_b, notK_ap, andK_t, andK_f, orK_t, orK_f, ifK_t, ifK_f, andV_t, andV_f, orV_t, orV_f, notV_c, consK1_ap, consK2_ap, tupK_ok, lstK_ok, callK_ap, permK_ap, smP_int, slK1_ap, slK2_ap, slK3_ap, sl_lst, sl_scr, sl_tup, chK1_ap, chK2_ap, chK3_t, chK3_f, chK4_ap, isiK_int, isiK_str, isiK_bl, isiK_non, isiK_tup, isiK_lst, mtsK_str, mtsK2_ap, ilK_lst, ilK_scr, itK_tup, isK_str, izK_l, izK_t, retK_ap, sifK_t, sifK_f, sexprK_ap, asgK_ap, bG_ok, forK_ap, parK_ok, gK_ok, subK1_ok, subK2_ok, add_int, sub_int, mod_int, lt_int, le_int, gt_int, ge_int, eq_int, eq_str, eq_bl, eq_is, eq_si, eq_bs, eq_sb, eq_nn, ne_int, ne_str, ne_bl, isn_ap, isN_int, isN_str, isN_bl, isN_tup, isN_lst, isN_non, ix_lst, ix_tup, ix_scr, len_lst, len_tup, int_int, list_lst, list_tup, tuple_lst, tuple_tup, asB_bl, getD0, getDS, set0, setS, at0, atS, map_some', bind_some', List.length_cons, List.length_nil, List.any_cons, List.any_nil, ↓fld_ap, ↓mei_ap, ↓faug_ap, ↓c1_ap, ↓ir2_ap, ↓sfld_ap, fldK_ap, meiK2_ap, c1K_ap, sfldK_ap, sfldK2_ap, decide_true, decide_false, and_self, Nat.reduceLeDiff, Nat.reduceAdd, if_true, Int.reduceLT, Int.reduceNeg, Int.reducePow, Int.reduceToNat, Int.reduceLE, Nat.reduceLT, Int.reduceAdd, Int.reduceSub, Bool.not_true, Bool.not_false, Int.reduceEq, bne_self_eq_false, Bool.false_bne, Bool.true_bne, Int.reduceBNe, atl2, tb]) (by omega)) (by simp; omega), js_ok]
      simp [Cd.txt]
    show endP (m_text_of (F_text_of_ f) [some (Cd.cmp o a b).d, none] []) = _
    simp only [m_text_of, Cd.d, ↓seq_ap, ↓var_ap, ↓c_ap, ↓bin_ap, ↓tst_ap, ↓not_ap, ↓and_ap, ↓or_ap, ↓if_ap, ↓andv_ap, ↓orv_ap, ↓notv_ap, ↓nil_ap, ↓cons_ap, ↓tup_ap, ↓lst_ap, ↓call_ap, ↓callP_ap, ↓callI_ap, ↓perm_ap, ↓nop_ap, ↓smp_ap, ↓sl_ap, ↓chain_ap, ↓isi_ap, ↓lc_ap, ↓lstC_ap, ↓mts_ap, ↓yes_ap, ↓il_ap, ↓it_ap, ↓is_ap, ↓ir1_ap, ↓iz_ap, ↓snil_ap, ↓ret_ap, ↓sif_ap, ↓sexpr_ap, ↓bk_ap, ↓ct_ap, ↓asg_ap, ↓for_ap, ↓par_ap, ↓gname_ap, ↓gnil_ap, ↓gcons_ap, ↓gtup_ap, ↓gsub_ap, bR_ok, bR_ex, rt_some, sq_nx, sq_rt, sq_bk, sq_ct, sq_ex, bS_ok, bS_ex, binK1_ap, binK2_ap, tstK_b, notK_ap, andK_t, andK_f, orK_t, orK_f, ifK_t, ifK_f, andV_t, andV_f, orV_t, orV_f, notV_c, consK1_ap, consK2_ap, tupK_ok, lstK_ok, callK_ap, permK_ap, smP_int, slK1_ap, slK2_ap, slK3_ap, sl_lst, sl_scr, sl_tup, chK1_ap, chK2_ap, chK3_t, chK3_f, chK4_ap, isiK_int, isiK_str, isiK_bl, isiK_non, isiK_tup, isiK_lst, mtsK_str, mtsK2_ap, ilK_lst, ilK_scr, itK_tup, isK_str, izK_l, izK_t, retK_ap, sifK_t, sifK_f, sexprK_ap, asgK_ap, bG_ok, forK_ap, parK_ok, gK_ok, subK1_ok, subK2_ok, add_int, sub_int, mod_int, lt_int, le_int, gt_int, ge_int, eq_int, eq_str, eq_bl, eq_is, eq_si, eq_bs, eq_sb, eq_nn, ne_int, ne_str, ne_bl, isn_ap, isN_int, isN_str, isN_bl, isN_tup, isN_lst, isN_non, ix_lst, ix_tup, ix_scr, len_lst, len_tup, int_int, list_lst, list_tup, tuple_lst, tuple_tup, asB_bl, getD0, getDS, set0, setS, at0, atS, map_some', bind_some', List.length_cons, List.length_nil, List.any_cons, List.any_nil, ↓fld_ap, ↓mei_ap, ↓faug_ap, ↓c1_ap, ↓ir2_ap, ↓sfld_ap, fldK_ap, meiK2_ap, c1K_ap, sfldK_ap, sfldK2_ap, decide_true, decide_false, and_self, Nat.reduceLeDiff, Nat.reduceAdd, if_true, Int.reduceLT, Int.reduceNeg, Int.reducePow, Int.reduceToNat, Int.reduceLE, Nat.reduceLT, Int.reduceAdd, Int.reduceSub, Bool.not_true, Bool.not_false, Int.reduceEq, bne_self_eq_false, Bool.false_bne, Bool.true_bne, Int.reduceBNe, atl0, cin_cw, e]
    exact endP_ok rfl
  | .tru, f, h, l, hf => by
    obtain ⟨f, rfl⟩ : ∃ m, f = m + 1 := ⟨f - 1, by have : 1 ≤ f := hf; omega⟩
    show endP (m_text_of (F_text_of_ f) [some Cd.tru.d, none] []) = _
    simp only [m_text_of, Cd.d, ↓seq_ap, ↓var_ap, ↓c_ap, ↓bin_ap, ↓tst_ap, ↓not_ap, ↓and_ap, ↓or_ap, ↓if_ap, ↓andv_ap, ↓orv_ap, ↓notv_ap, ↓nil_ap, ↓cons_ap, ↓tup_ap, ↓lst_ap, ↓call_ap, ↓callP_ap, ↓callI_ap, ↓perm_ap, ↓nop_ap, ↓smp_ap, ↓sl_ap, ↓chain_ap, ↓isi_ap, ↓lc_ap, ↓lstC_ap, ↓mts_ap, ↓yes_ap, ↓il_ap, ↓it_ap, ↓is_ap, ↓ir1_ap, ↓iz_ap, ↓snil_ap, ↓ret_ap, ↓sif_ap, ↓sexpr_ap, ↓bk_ap, ↓ct_ap, ↓asg_ap, ↓for_ap, ↓par_ap, ↓gname_ap, ↓gnil_ap, ↓gcons_ap, ↓gtup_ap, ↓gsub_ap, bR_ok, bR_ex, rt_some, sq_nx, sq_rt, sq_bk, sq_ct, sq_ex, bS_ok, bS_ex, binK1_ap, binK2_ap, tstK_b, notK_ap, andK_t, andK_f, orK_t, orK_f, ifK_t, ifK_f, andV_t, andV_f, orV_t, orV_f, notV_c, consK1_ap, consK2_ap, tupK_ok, lstK_ok, callK_ap, permK_ap, smP_int, slK1_ap, slK2_ap, slK3_ap, sl_lst, sl_scr, sl_tup, chK1_ap, chK2_ap, chK3_t, chK3_f, chK4_ap, isiK_int, isiK_str, isiK_bl, isiK_non, isiK_tup, isiK_lst, mtsK_str, mtsK2_ap, ilK_lst, ilK_scr, itK_tup, isK_str, izK_l, izK_t, retK_ap, sifK_t, sifK_f, sexprK_ap, asgK_ap, bG_ok, forK_ap, parK_ok, gK_ok, subK1_ok, subK2_ok, add_int, sub_int, mod_int, lt_int, le_int, gt_int, ge_int, eq_int, eq_str, eq_bl, eq_is, eq_si, eq_bs, eq_sb, eq_nn, ne_int, ne_str, ne_bl, isn_ap, isN_int, isN_str, isN_bl, isN_tup, isN_lst, isN_non, ix_lst, ix_tup, ix_scr, len_lst, len_tup, int_int, list_lst, list_tup, tuple_lst, tuple_tup, asB_bl, getD0, getDS, set0, setS, at0, atS, map_some', bind_some', List.length_cons, List.length_nil, List.any_cons, List.any_nil, ↓fld_ap, ↓mei_ap, ↓faug_ap, ↓c1_ap, ↓ir2_ap, ↓sfld_ap, fldK_ap, meiK2_ap, c1K_ap, sfldK_ap, sfldK2_ap, decide_true, decide_false, and_self, Nat.reduceLeDiff, Nat.reduceAdd, if_true, Int.reduceLT, Int.reduceNeg, Int.reducePow, Int.reduceToNat, Int.reduceLE, Nat.reduceLT, Int.reduceAdd, Int.reduceSub, Bool.not_true, Bool.not_false, Int.reduceEq, bne_self_eq_false, Bool.false_bne, Bool.true_bne, Int.reduceBNe, atl0, cin_tru, List.cons.injEq, Nat.reduceEqDiff, false_and, and_false]
    exact endP_ok rfl
  | .fnd z, f, h, l, hf => by
    obtain ⟨f, rfl⟩ : ∃ m, f = m + 1 := ⟨f - 1, by have : 1 ≤ f := hf; omega⟩
    have lz := isNm_len (show isNm z = true from h)
    have e : jsL [(mC (.str [102, 111, 117, 110, 100, 32])), (mFmt (mBin dIx (mVar 0) (mC (.int 1))))] [] [some (.tup [.str [102, 111, 117, 110, 100], .str z]), some (.str [102, 111, 117, 110, 100])] [] = some (.ok (.str (Cd.fnd z).txt), []) := by
      rw [js_step (z := [102, 111, 117, 110, 100, 32]) (h1 := []) rfl (by simp),
        js_step (z := z) (h1 := []) (fmt_s (h1 := []) (by simp only [↓seq_ap, ↓var_ap, ↓c_ap, ↓bin_ap, ↓tst_ap, ↓not_ap, ↓and_ap, ↓or_ap, ↓if_ap, ↓andv_ap, ↓orv_ap, ↓notv_ap, ↓nil_ap, ↓cons_ap, ↓tup_ap, ↓lst_ap, ↓call_ap, ↓callP_ap, ↓callI_ap, ↓perm_ap, ↓nop_ap, ↓smp_ap, ↓sl_ap, ↓chain_ap, ↓isi_ap, ↓lc_ap, ↓lstC_ap, ↓mts_ap, ↓yes_ap, ↓il_ap, ↓it_ap, ↓is_ap, ↓ir1_ap, ↓iz_ap, ↓snil_ap, ↓ret_ap, ↓sif_ap, ↓sexpr_ap, ↓bk_ap, ↓ct_ap, ↓asg_ap, ↓for_ap, ↓par_ap, ↓gname_ap, ↓gnil_ap, ↓gcons_ap, ↓gtup_ap, ↓gsub_ap, bR_ok, bR_ex, rt_some, sq_nx, sq_rt, sq_bk, sq_ct, sq_ex, bS_ok, bS_ex, binK1_ap, binK2_ap, tstK_b, notK_ap, andK_t, andK_f, orK_t, orK_f, ifK_t, ifK_f, andV_t, andV_f, orV_t, orV_f, notV_c, consK1_ap, consK2_ap, tupK_ok, lstK_ok, callK_ap, permK_ap, smP_int, slK1_ap, slK2_ap, slK3_ap, sl_lst, sl_scr, sl_tup, chK1_ap, chK2_ap, chK3_t, chK3_f, chK4_ap, isiK_int, isiK_str, isiK_bl, isiK_non, isiK_tup, isiK_lst, mtsK_str, mtsK2_ap, ilK_lst, ilK_scr, itK_tup, isK_str, izK_l, izK_t, retK_ap, sifK_t, sifK_f, sexprK_ap, asgK_ap, bG_ok, forK_ap, parK_ok, gK_ok, subK1_ok, subK2_ok, add_int, sub_int, mod_int, lt_int, le_int, gt_int, ge_int, eq_int, eq_str, eq_bl, eq_is, eq_si, eq_bs, eq_sb, eq_nn, ne_int, ne_str, ne_bl, isn_ap, isN_int, isN_str, isN_bl, isN_tup, isN_lst, isN_non, ix_lst, ix_tup, ix_scr, len_lst, len_tup, int_int, list_lst, list_tup, tuple_lst, tuple_tup, asB_bl, getD0, getDS, set0, setS, at0, atS, map_some', bind_some', List.length_cons, List.length_nil, List.any_cons, List.any_nil, ↓fld_ap, ↓mei_ap, ↓faug_ap, ↓c1_ap, ↓ir2_ap, ↓sfld_ap, fldK_ap, meiK2_ap, c1K_ap, sfldK_ap, sfldK2_ap, decide_true, decide_false, and_self, Nat.reduceLeDiff, Nat.reduceAdd, if_true, Int.reduceLT, Int.reduceNeg, Int.reducePow, Int.reduceToNat, Int.reduceLE, Nat.reduceLT, Int.reduceAdd, Int.reduceSub, Bool.not_true, Bool.not_false, Int.reduceEq, bne_self_eq_false, Bool.false_bne, Bool.true_bne, Int.reduceBNe, atl1]) (by omega)) (by simp; omega), js_ok]
      rfl
    show endP (m_text_of (F_text_of_ f) [some (Cd.fnd z).d, none] []) = _
    simp only [m_text_of, Cd.d, ↓seq_ap, ↓var_ap, ↓c_ap, ↓bin_ap, ↓tst_ap, ↓not_ap, ↓and_ap, ↓or_ap, ↓if_ap, ↓andv_ap, ↓orv_ap, ↓notv_ap, ↓nil_ap, ↓cons_ap, ↓tup_ap, ↓lst_ap, ↓call_ap, ↓callP_ap, ↓callI_ap, ↓perm_ap, ↓nop_ap, ↓smp_ap, ↓sl_ap, ↓chain_ap, ↓isi_ap, ↓lc_ap, ↓lstC_ap, ↓mts_ap, ↓yes_ap, ↓il_ap, ↓it_ap, ↓is_ap, ↓ir1_ap, ↓iz_ap, ↓snil_ap, ↓ret_ap, ↓sif_ap, ↓sexpr_ap, ↓bk_ap, ↓ct_ap, ↓asg_ap, ↓for_ap, ↓par_ap, ↓gname_ap, ↓gnil_ap, ↓gcons_ap, ↓gtup_ap, ↓gsub_ap, bR_ok, bR_ex, rt_some, sq_nx, sq_rt, sq_bk, sq_ct, sq_ex, bS_ok, bS_ex, binK1_ap, binK2_ap, tstK_b, notK_ap, andK_t, andK_f, orK_t, orK_f, ifK_t, ifK_f, andV_t, andV_f, orV_t, orV_f, notV_c, consK1_ap, consK2_ap, tupK_ok, lstK_ok, callK_ap, permK_ap, smP_int, slK1_ap, slK2_ap, slK3_ap, sl_lst, sl_scr, sl_tup, chK1_ap, chK2_ap, chK3_t, chK3_f, chK4_ap, isiK_int, isiK_str, isiK_bl, isiK_non, isiK_tup, isiK_lst, mtsK_str, mtsK2_ap, ilK_lst, ilK_scr, itK_tup, isK_str, izK_l, izK_t, retK_ap, sifK_t, sifK_f, sexprK_ap, asgK_ap, bG_ok, forK_ap, parK_ok, gK_ok, subK1_ok, subK2_ok, add_int, sub_int, mod_int, lt_int, le_int, gt_int, ge_int, eq_int, eq_str, eq_bl, eq_is, eq_si, eq_bs, eq_sb, eq_nn, ne_int, ne_str, ne_bl, isn_ap, isN_int, isN_str, isN_bl, isN_tup, isN_lst, isN_non, ix_lst, ix_tup, ix_scr, len_lst, len_tup, int_int, list_lst, list_tup, tuple_lst, tuple_tup, asB_bl, getD0, getDS, set0, setS, at0, atS, map_some', bind_some', List.length_cons, List.length_nil, List.any_cons, List.any_nil, ↓fld_ap, ↓mei_ap, ↓faug_ap, ↓c1_ap, ↓ir2_ap, ↓sfld_ap, fldK_ap, meiK2_ap, c1K_ap, sfldK_ap, sfldK2_ap, decide_true, decide_false, and_self, Nat.reduceLeDiff, Nat.reduceAdd, if_true, Int.reduceLT, Int.reduceNeg, Int.reducePow, Int.reduceToNat, Int.reduceLE, Nat.reduceLT, Int.reduceAdd, Int.reduceSub, Bool.not_true, Bool.not_false, Int.reduceEq, bne_self_eq_false, Bool.false_bne, Bool.true_bne, Int.reduceBNe, atl0, cin_fnd, e]
    exact endP_ok rfl
  | .nt c, f, h, l, hf => by
    obtain ⟨f, rfl⟩ : ∃ m, f = m + 1 := ⟨f - 1, by have : c.dep + 1 ≤ f := hf; omega⟩
    have l' : ([110, 111, 116, 32] ++ c.txt).length ≤ 16000000 := l
    simp only [List.length_append, List.length_cons, List.length_nil] at l'
    have hf' : c.dep + 1 ≤ f + 1 := hf
    have tc := callPK_ok (F := F_text_of_ f) (h := []) (text_ok c f h (by omega) (by omega)) (go1 c.noRef)
    have e : jsL [(mC (.str [110, 111, 116, 32])), (mFmt (mCallP (F_text_of_ f) (mCons (mBin dIx (mVar 0) (mC (.int 1))) mNil)))] [] [some (.tup [.str [110, 111, 116], c.d]), some (.str [110, 111, 116])] [] = some (.ok (.str (Cd.nt c).txt), []) := by
      rw [js_step (z := [110, 111, 116, 32]) (h1 := []) rfl (by simp),
        js_step (z := c.txt) (h1 := []) (fmt_s (h1 := []) (by simp only [↓seq_ap, ↓var_ap, ↓c_ap, ↓bin_ap, ↓tst_ap, ↓not_ap, ↓and_ap, ↓or_ap, ↓if_ap, ↓andv_ap, ↓orv_ap, ↓notv_ap, ↓nil_ap, ↓cons_ap, ↓tup_ap, ↓lst_ap, ↓call_ap, ↓callP_ap, ↓callI_ap, ↓perm_ap, ↓nop_ap, ↓smp_ap, ↓sl_ap, ↓chain_ap, ↓isi_ap, ↓lc_ap, ↓lstC_ap, ↓mts_ap, ↓yes_ap, ↓il_ap, ↓it_ap, ↓is_ap, ↓ir1_ap, ↓iz_ap, ↓snil_ap, ↓ret_ap, ↓sif_ap, ↓sexpr_ap, ↓bk_ap, ↓ct_ap, ↓asg_ap, ↓for_ap, ↓par_ap, ↓gname_ap, ↓gnil_ap, ↓gcons_ap, ↓gtup_ap, ↓gsub_ap, bR_ok, bR_ex, rt_some, sq_nx, sq_rt, sq_bk, sq_ct, sq_ex, bS_ok, bS_ex, binK1_ap, binK2_ap, tstK_b, notK_ap, andK_t, andK_f, orK_t, orK_f, ifK_t, ifK_f, andV_t, andV_f, orV_t, orV_f, notV_c, consK1_ap, consK2_ap, tupK_ok, lstK_ok, callK_ap, permK_ap, smP_int, slK1_ap, slK2_ap, slK3_ap, sl_lst, sl_scr, sl_tup, chK1_ap, chK2_ap, chK3_t, chK3_f, chK4_ap, isiK_int, isiK_str, isiK_bl, isiK_non, isiK_tup, isiK_lst, mtsK_str, mtsK2_ap, ilK_lst, ilK_scr, itK_tup, isK_str, izK_l, izK_t, retK_ap, sifK_t, sifK_f, sexprK_ap, asgK_ap, bG_ok, forK_ap, parK_ok, gK_ok, subK1_ok, subK2_ok, add_int, sub_int, mod_int, lt_int, le_int, gt_int, ge_int, eq_int, eq_str, eq_bl, eq_is, eq_si, eq_bs, eq_sb, eq_nn, ne_int, ne_str, ne_bl, isn_ap, isN_int, isN_str, isN_bl, isN_tup, isN_lst, isN_non, ix_lst, ix_tup, ix_scr, len_lst, len_tup, int_int, list_lst, list_tup, tuple_lst, tuple_tup, asB_bl, getD0, getDS, set0, setS, at0, atS, map_some', bind_some', List.length_cons, List.length_nil, List.any_cons, List.any_nil, ↓fld_ap, ↓mei_ap, ↓faug_ap, ↓c1_ap, ↓ir2_ap, ↓sfld_ap, fldK_ap, meiK2_ap, c1K_ap, sfldK_ap, sfldK2_ap, decide_true, decide_false, and_self, Nat.reduceLeDiff, Nat.reduceAdd, if_true, Int.reduceLT, Int.reduceNeg, Int.reducePow, Int.reduceToNat, Int.reduceLE, Nat.reduceLT, Int.reduceAdd, Int.reduceSub, Bool.not_true, Bool.not_false, Int.reduceEq, bne_self_eq_false, Bool.false_bne, Bool.true_bne, Int.reduceBNe, atl1, tc]) (by omega)) (by simp; omega), js_ok]
      rfl
    show endP (m_text_of (F_text_of_ f) [some (Cd.nt c).d, none] []) = _
    simp only [m_text_of, Cd.d, ↓seq_ap, ↓var_ap, ↓c_ap, ↓bin_ap, ↓tst_ap, ↓not_ap, ↓and_ap, ↓or_ap, ↓if_ap, ↓andv_ap, ↓orv_ap, ↓notv_ap, ↓nil_ap, ↓cons_ap, ↓tup_ap, ↓lst_ap, ↓call_ap, ↓callP_ap, ↓callI_ap, ↓perm_ap, ↓nop_ap, ↓smp_ap, ↓sl_ap, ↓chain_ap, ↓isi_ap, ↓lc_ap, ↓lstC_ap, ↓mts_ap, ↓yes_ap, ↓il_ap, ↓it_ap, ↓is_ap, ↓ir1_ap, ↓iz_ap, ↓snil_ap, ↓ret_ap, ↓sif_ap, ↓sexpr_ap, ↓bk_ap, ↓ct_ap, ↓asg_ap, ↓for_ap, ↓par_ap, ↓gname_ap, ↓gnil_ap, ↓gcons_ap, ↓gtup_ap, ↓gsub_ap, bR_ok, bR_ex, rt_some, sq_nx, sq_rt, sq_bk, sq_ct, sq_ex, bS_ok, bS_ex, binK1_ap, binK2_ap, tstK_b, notK_ap, andK_t, andK_f, orK_t, orK_f, ifK_t, ifK_f, andV_t, andV_f, orV_t, orV_f, notV_c, consK1_ap, consK2_ap, tupK_ok, lstK_ok, callK_ap, permK_ap, smP_int, slK1_ap, slK2_ap, slK3_ap, sl_lst, sl_scr, sl_tup, chK1_ap, chK2_ap, chK3_t, chK3_f, chK4_ap, isiK_int, isiK_str, isiK_bl, isiK_non, isiK_tup, isiK_lst, mtsK_str, mtsK2_ap, ilK_lst, ilK_scr, itK_tup, isK_str, izK_l, izK_t, retK_ap, sifK_t, sifK_f, sexprK_ap, asgK_ap, bG_ok, forK_ap, parK_ok, gK_ok, subK1_ok, subK2_ok, add_int, sub_int, mod_int, lt_int, le_int, gt_int, ge_int, eq_int, eq_str, eq_bl, eq_is, eq_si, eq_bs, eq_sb, eq_nn, ne_int, ne_str, ne_bl, isn_ap, isN_int, isN_str, isN_bl, isN_tup, isN_lst, isN_non, ix_lst, ix_tup, ix_scr, len_lst, len_tup, int_int, list_lst, list_tup, tuple_lst, tuple_tup, asB_bl, getD0, getDS, set0, setS, at0, atS, map_some', bind_some', List.length_cons, List.length_nil, List.any_cons, List.any_nil, ↓fld_ap, ↓mei_ap, ↓faug_ap, ↓c1_ap, ↓ir2_ap, ↓sfld_ap, fldK_ap, meiK2_ap, c1K_ap, sfldK_ap, sfldK2_ap, decide_true, decide_false, and_self, Nat.reduceLeDiff, Nat.reduceAdd, if_true, Int.reduceLT, Int.reduceNeg, Int.reducePow, Int.reduceToNat, Int.reduceLE, Nat.reduceLT, Int.reduceAdd, Int.reduceSub, Bool.not_true, Bool.not_false, Int.reduceEq, bne_self_eq_false, Bool.false_bne, Bool.true_bne, Int.reduceBNe, atl0, cin_nt, List.cons.injEq, Nat.reduceEqDiff, false_and, and_false, e]
    exact endP_ok rfl
  | .bin j c d, f, h, l, hf => by
    obtain ⟨f, rfl⟩ : ∃ m, f = m + 1 := ⟨f - 1, by have : max c.dep d.dep + 1 ≤ f := hf; omega⟩
    have h' := Bool.and_eq_true_iff.mp (show (c.ok && d.ok) = true from h)
    have l' : ([40] ++ (c.txt ++ ([32] ++ (jw j ++ ([32] ++ (d.txt ++ [41])))))).length ≤ 16000000 := l
    simp only [List.length_append, List.length_cons, List.length_nil] at l'
    have hf' : max c.dep d.dep + 1 ≤ f + 1 := hf
    have tc := callPK_ok (F := F_text_of_ f) (h := []) (text_ok c f h'.1 (by omega) (by omega)) (go1 c.noRef)
    have td := callPK_ok (F := F_text_of_ f) (h := []) (text_ok d f h'.2 (by omega) (by omega)) (go1 d.noRef)
    have e : jsL [(mC (.str [40])), (mFmt (mCallP (F_text_of_ f) (mCons (mBin dIx (mVar 0) (mC (.int 1))) mNil))), (mC (.str [32])), (mFmt (mVar 1)), (mC (.str [32])), (mFmt (mCallP (F_text_of_ f) (mCons (mBin dIx (mVar 0) (mC (.int 2))) mNil))), (mC (.str [41]))] [] [some (.tup [.str (jw j), c.d, d.d]), some (.str (jw j))] [] = some (.ok (.str (Cd.bin j c d).txt), []) := by
      rw [js_step (z := [40]) (h1 := []) rfl (by simp),
        js_step (z := c.txt) (h1 := []) (fmt_s (h1 := []) (by simp only [↓seq_ap, ↓var_ap, ↓c_ap, ↓bin_ap, ↓tst_ap, ↓not_ap, ↓and_ap, ↓or_ap, ↓if_ap, ↓andv_ap, ↓orv_ap, ↓notv_ap, ↓nil_ap, ↓cons_ap, ↓tup_ap, ↓lst_ap, ↓call_ap, ↓callP_ap, ↓callI_ap, ↓perm_ap, ↓nop_ap, ↓smp_ap, ↓sl_ap, ↓chain_ap, ↓isi_ap, ↓lc_ap, ↓lstC_ap, ↓mts_ap, ↓yes_ap, ↓il_ap, ↓it_ap, ↓is_ap, ↓ir1_ap, ↓iz_ap, ↓snil_ap, ↓ret_ap, ↓sif_ap, ↓sexpr_ap, ↓bk_ap, ↓ct_ap, ↓asg_ap, ↓for_ap, ↓par_ap, ↓gname_ap, ↓gnil_ap, ↓gcons_ap, ↓gtup_ap, ↓gsub_ap, bR_ok, bR_ex, rt_some, sq_nx, sq_rt, sq_bk, sq_ct, sq_ex, bS_ok, bS_ex, binK1_ap, binK2_ap, tstK_b, notK_ap, andK_t, andK_f, orK_t, orK_f, ifK_t, ifK_f, andV_t, andV_f, orV_t, orV_f, notV_c, consK1_ap, consK2_ap, tupK_ok, lstK_ok, callK_ap, permK_ap, smP_int, slK1_ap, slK2_ap, slK3_ap, sl_lst, sl_scr, sl_tup, chK1_ap, chK2_ap, chK3_t, chK3_f, chK4_ap, isiK_int, isiK_str, isiK_bl, isiK_non, isiK_tup, isiK_lst, mtsK_str, mtsK2_ap, ilK_lst, ilK_scr, itK_tup, isK_str, izK_l, izK_t, retK_ap, sifK_t, sifK_f, sexprK_ap, asgK_ap, bG_ok, forK_ap, parK_ok, gK_ok, subK1_ok, subK2_ok, add_int, sub_int, mod_int, lt_int, le_int, gt_int, ge_int, eq_int, eq_str, eq_bl, eq_is, eq_si, eq_bs, eq_sb, eq_nn, ne_int, ne_str, ne_bl, isn_ap, isN_int, isN_str, isN_bl, isN_tup, isN_lst, isN_non, ix_lst, ix_tup, ix_scr, len_lst, len_tup, int_int, list_lst, list_tup, tuple_lst, tuple_tup, asB_bl, getD0, getDS, set0, setS, at0, atS, map_some', bind_some', List.length_cons, List.length_nil, List.any_cons, List.any_nil, ↓fld_ap, ↓mei_ap, ↓faug_ap, ↓c1_ap, ↓ir2_ap, ↓sfld_ap, fldK_ap, meiK2_ap, c1K_ap, sfldK_ap, sfldK2_ap, decide_true, decide_false, and_self, Nat.reduceLeDiff, Nat.reduceAdd, if_true, Int.reduceLT, Int.reduceNeg, Int.reducePow, Int.reduceToNat, Int.reduceLE, Nat.reduceLT, Int.reduceAdd, Int.reduceSub, Bool.not_true, Bool.not_false, Int.reduceEq, bne_self_eq_false, Bool.false_bne, Bool.true_bne, Int.reduceBNe, atl1, tc]) (by omega)) (by simp; omega),
        js_step (z := [32]) (h1 := []) rfl (by simp; omega),
        js_step (z := jw j) (h1 := []) (fmt_s (h1 := []) rfl (by omega)) (by simp; omega),
        js_step (z := [32]) (h1 := []) rfl (by simp; omega),
        js_step (z := d.txt) (h1 := []) (fmt_s (h1 := []) (by simp only [↓seq_ap, ↓var_ap, ↓c_ap, ↓bin_ap, ↓tst_ap, ↓not_ap, ↓and_ap, ↓or_ap, ↓if_ap, ↓andv_ap, ↓orv_ap, ↓notv_ap, ↓nil_ap, ↓cons_ap, ↓tup_ap, ↓lst_ap, ↓call_ap, ↓callP_ap, ↓callI_ap, ↓perm_ap, ↓nop_ap, ↓smp_ap, ↓sl_ap, ↓chain_ap, ↓isi_ap, ↓lc_ap, ↓lstC_ap, ↓mts_ap, ↓yes_ap, ↓il_ap, ↓it_ap, ↓is_ap, ↓ir1_ap, ↓iz_ap, ↓snil_ap, ↓ret_ap, ↓sif_ap, ↓sexpr_ap, ↓bk_ap, ↓ct_ap, ↓asg_ap, ↓for_ap, ↓par_ap, ↓gname_ap, ↓gnil_ap, ↓gcons_ap, ↓gtup_ap, ↓gsub_ap, bR_ok, bR_ex, rt_some, sq_nx, sq_rt, sq_bk, sq_ct, sq_ex, bS_ok, bS_ex, binK1_ap, binK2_ap, tstK_b, notK_ap, andK_t, andK_f, orK_t, orK_f, ifK_t, ifK_f, andV_t, andV_f, orV_t, orV_f, notV_c, consK1_ap, consK2_ap, tupK_ok, lstK_ok, callK_ap, permK_ap, smP_int, slK1_ap, slK2_ap, slK3_ap, sl_lst, sl_scr, sl_tup, chK1_ap, chK2_ap, chK3_t, chK3_f, chK4_ap, isiK_int, isiK_str, isiK_bl, isiK_non, isiK_tup, isiK_lst, mtsK_str, mtsK2_ap, ilK_lst, ilK_scr, itK_tup, isK_str, izK_l, izK_t, retK_ap, sifK_t, sifK_f, sexprK_ap, asgK_ap, bG_ok, forK_ap, parK_ok, gK_ok, subK1_ok, subK2_ok, add_int, sub_int, mod_int, lt_int, le_int, gt_int, ge_int, eq_int, eq_str, eq_bl, eq_is, eq_si, eq_bs, eq_sb, eq_nn, ne_int, ne_str, ne_bl, isn_ap, isN_int, isN_str, isN_bl, isN_tup, isN_lst, isN_non, ix_lst, ix_tup, ix_scr, len_lst, len_tup, int_int, list_lst, list_tup, tuple_lst, tuple_tup, asB_bl, getD0, getDS, set0, setS, at0, atS, map_some', bind_some', List.length_cons, List.length_nil, List.any_cons, List.any_nil, ↓fld_ap, ↓mei_ap, ↓faug_ap, ↓c1_ap, ↓ir2_ap, ↓sfld_ap, fldK_ap, meiK2_ap, c1K_ap, sfldK_ap, sfldK2_ap, decide_true, decide_false, and_self, Nat.reduceLeDiff, Nat.reduceAdd, if_true, Int.reduceLT, Int.reduceNeg, Int.reducePow, Int.reduceToNat, Int.reduceLE, Nat.reduceLT, Int.reduceAdd, Int.reduceSub, Bool.not_true, Bool.not_false, Int.reduceEq, bne_self_eq_false, Bool.false_bne, Bool.true_bne, Int.reduceBNe, atl2, td]) (by omega)) (by simp; omega),
        js_step (z := [41]) (h1 := []) rfl (by simp; omega), js_ok]
      simp [Cd.txt]
    show endP (m_text_of (F_text_of_ f) [some (Cd.bin j c d).d, none] []) = _
    simp only [m_text_of, Cd.d, ↓seq_ap, ↓var_ap, ↓c_ap, ↓bin_ap, ↓tst_ap, ↓not_ap, ↓and_ap, ↓or_ap, ↓if_ap, ↓andv_ap, ↓orv_ap, ↓notv_ap, ↓nil_ap, ↓cons_ap, ↓tup_ap, ↓lst_ap, ↓call_ap, ↓callP_ap, ↓callI_ap, ↓perm_ap, ↓nop_ap, ↓smp_ap, ↓sl_ap, ↓chain_ap, ↓isi_ap, ↓lc_ap, ↓lstC_ap, ↓mts_ap, ↓yes_ap, ↓il_ap, ↓it_ap, ↓is_ap, ↓ir1_ap, ↓iz_ap, ↓snil_ap, ↓ret_ap, ↓sif_ap, ↓sexpr_ap, ↓bk_ap, ↓ct_ap, ↓asg_ap, ↓for_ap, ↓par_ap, ↓gname_ap, ↓gnil_ap, ↓gcons_ap, ↓gtup_ap, ↓gsub_ap, bR_ok, bR_ex, rt_some, sq_nx, sq_rt, sq_bk, sq_ct, sq_ex, bS_ok, bS_ex, binK1_ap, binK2_ap, tstK_b, notK_ap, andK_t, andK_f, orK_t, orK_f, ifK_t, ifK_f, andV_t, andV_f, orV_t, orV_f, notV_c, consK1_ap, consK2_ap, tupK_ok, lstK_ok, callK_ap, permK_ap, smP_int, slK1_ap, slK2_ap, slK3_ap, sl_lst, sl_scr, sl_tup, chK1_ap, chK2_ap, chK3_t, chK3_f, chK4_ap, isiK_int, isiK_str, isiK_bl, isiK_non, isiK_tup, isiK_lst, mtsK_str, mtsK2_ap, ilK_lst, ilK_scr, itK_tup, isK_str, izK_l, izK_t, retK_ap, sifK_t, sifK_f, sexprK_ap, asgK_ap, bG_ok, forK_ap, parK_ok, gK_ok, subK1_ok, subK2_ok, add_int, sub_int, mod_int, lt_int, le_int, gt_int, ge_int, eq_int, eq_str, eq_bl, eq_is, eq_si, eq_bs, eq_sb, eq_nn, ne_int, ne_str, ne_bl, isn_ap, isN_int, isN_str, isN_bl, isN_tup, isN_lst, isN_non, ix_lst, ix_tup, ix_scr, len_lst, len_tup, int_int, list_lst, list_tup, tuple_lst, tuple_tup, asB_bl, getD0, getDS, set0, setS, at0, atS, map_some', bind_some', List.length_cons, List.length_nil, List.any_cons, List.any_nil, ↓fld_ap, ↓mei_ap, ↓faug_ap, ↓c1_ap, ↓ir2_ap, ↓sfld_ap, fldK_ap, meiK2_ap, c1K_ap, sfldK_ap, sfldK2_ap, decide_true, decide_false, and_self, Nat.reduceLeDiff, Nat.reduceAdd, if_true, Int.reduceLT, Int.reduceNeg, Int.reducePow, Int.reduceToNat, Int.reduceLE, Nat.reduceLT, Int.reduceAdd, Int.reduceSub, Bool.not_true, Bool.not_false, Int.reduceEq, bne_self_eq_false, Bool.false_bne, Bool.true_bne, Int.reduceBNe, atl0, cin_jw, jw_fnd, jw_nt, jw_tru, e]
    exact endP_ok rfl
theorem ctext_ok {c : Cd} (h : c.ok = true) (hd : c.dep ≤ 6) (l : c.txt.length ≤ 16000000) : F_condition_text [c.d] = some (.ok (.str c.txt)) := by
  have e1 := callPK_ok (F := F_check_condition) (h := []) (check_ok h hd) (go1 c.noRef)
  have e2 := callPK_ok (F := F_text_of) (h := []) (text_ok c 12 h l (by omega)) (go1 c.noRef)
  show endP (m_condition_text [some c.d] []) = _
  simp only [m_condition_text, ↓seq_ap, ↓var_ap, ↓c_ap, ↓bin_ap, ↓tst_ap, ↓not_ap, ↓and_ap, ↓or_ap, ↓if_ap, ↓andv_ap, ↓orv_ap, ↓notv_ap, ↓nil_ap, ↓cons_ap, ↓tup_ap, ↓lst_ap, ↓call_ap, ↓callP_ap, ↓callI_ap, ↓perm_ap, ↓nop_ap, ↓smp_ap, ↓sl_ap, ↓chain_ap, ↓isi_ap, ↓lc_ap, ↓lstC_ap, ↓mts_ap, ↓yes_ap, ↓il_ap, ↓it_ap, ↓is_ap, ↓ir1_ap, ↓iz_ap, ↓snil_ap, ↓ret_ap, ↓sif_ap, ↓sexpr_ap, ↓bk_ap, ↓ct_ap, ↓asg_ap, ↓for_ap, ↓par_ap, ↓gname_ap, ↓gnil_ap, ↓gcons_ap, ↓gtup_ap, ↓gsub_ap, bR_ok, bR_ex, rt_some, sq_nx, sq_rt, sq_bk, sq_ct, sq_ex, bS_ok, bS_ex, binK1_ap, binK2_ap, tstK_b, notK_ap, andK_t, andK_f, orK_t, orK_f, ifK_t, ifK_f, andV_t, andV_f, orV_t, orV_f, notV_c, consK1_ap, consK2_ap, tupK_ok, lstK_ok, callK_ap, permK_ap, smP_int, slK1_ap, slK2_ap, slK3_ap, sl_lst, sl_scr, sl_tup, chK1_ap, chK2_ap, chK3_t, chK3_f, chK4_ap, isiK_int, isiK_str, isiK_bl, isiK_non, isiK_tup, isiK_lst, mtsK_str, mtsK2_ap, ilK_lst, ilK_scr, itK_tup, isK_str, izK_l, izK_t, retK_ap, sifK_t, sifK_f, sexprK_ap, asgK_ap, bG_ok, forK_ap, parK_ok, gK_ok, subK1_ok, subK2_ok, add_int, sub_int, mod_int, lt_int, le_int, gt_int, ge_int, eq_int, eq_str, eq_bl, eq_is, eq_si, eq_bs, eq_sb, eq_nn, ne_int, ne_str, ne_bl, isn_ap, isN_int, isN_str, isN_bl, isN_tup, isN_lst, isN_non, ix_lst, ix_tup, ix_scr, len_lst, len_tup, int_int, list_lst, list_tup, tuple_lst, tuple_tup, asB_bl, getD0, getDS, set0, setS, at0, atS, map_some', bind_some', List.length_cons, List.length_nil, List.any_cons, List.any_nil, ↓fld_ap, ↓mei_ap, ↓faug_ap, ↓c1_ap, ↓ir2_ap, ↓sfld_ap, fldK_ap, meiK2_ap, c1K_ap, sfldK_ap, sfldK2_ap, decide_true, decide_false, and_self, Nat.reduceLeDiff, Nat.reduceAdd, if_true, Int.reduceLT, Int.reduceNeg, Int.reducePow, Int.reduceToNat, Int.reduceLE, Nat.reduceLT, Int.reduceAdd, Int.reduceSub, Bool.not_true, Bool.not_false, Int.reduceEq, bne_self_eq_false, Bool.false_bne, Bool.true_bne, Int.reduceBNe, e1, e2]
  exact endP_ok rfl
/-! ### the law's text -/
theorem in_ao {h : EH} {z : List Nat} : dInA h (.str z) (.tup [.str [97, 110, 100], .str [111, 114]]) = some (.bl (decide (z ∈ [[97, 110, 100], [111, 114]]))) := in_strs [[97, 110, 100], [111, 114]]
def lwD : M D := (mDisp [((mC (.str [97, 116, 109, 111, 115, 116])), (mC (.str [32, 60, 61, 32]))), ((mC (.str [98, 101, 108, 111, 119])), (mC (.str [32, 60, 32]))), ((mC (.str [115, 97, 109, 101])), (mC (.str [32, 61, 32])))])
theorem lw_fold : (mDisp [((mC (.str [97, 116, 109, 111, 115, 116])), (mC (.str [32, 60, 61, 32]))), ((mC (.str [98, 101, 108, 111, 119])), (mC (.str [32, 60, 32]))), ((mC (.str [115, 97, 109, 101])), (mC (.str [32, 61, 32])))]) = lwD := rfl
def lwV : D := .dic false [([Sum.inr (toS [97, 116, 109, 111, 115, 116])], .str [32, 60, 61, 32]), ([Sum.inr (toS [98, 101, 108, 111, 119])], .str [32, 60, 32]), ([Sum.inr (toS [115, 97, 109, 101])], .str [32, 61, 32])]
theorem lw_ok {ε : Ev} {h : EH} : lwD ε h = some (.ok lwV, h) := by kernel_rfl
theorem lw_ix (o : Cw) {h : EH} : dDIx h lwV (.str o.w) = some (.str ([32] ++ (o.s ++ [32]))) := by cases o <;> kernel_rfl
theorem jw_ao (j : Bool) : jw j ∈ [[97, 110, 100], [111, 114]] := by cases j <;> decide
theorem cw_ao (o : Cw) : ¬ o.w ∈ [[97, 110, 100], [111, 114]] := by cases o <;> decide
theorem cw_nt (o : Cw) : ¬ o.w = [110, 111, 116] := by cases o <;> decide
theorem cw_fnd (o : Cw) : ¬ o.w = [102, 111, 117, 110, 100] := by cases o <;> decide
theorem cw_tru (o : Cw) : ¬ o.w = [116, 114, 117, 101] := by cases o <;> decide
theorem cw_len (o : Cw) : o.s.length ≤ 2 := by cases o <;> decide
theorem jw_len (j : Bool) : (jw j).length ≤ 3 := by cases j <;> decide
theorem ltx : ∀ (c : Cd) (f : Nat), c.ok = true → c.txt.length ≤ 16000000 → c.dep ≤ f → F__law_condition_text_ f [c.d] = some (.ok (.str c.txt))
  | .cmp o a b, f, h, l, hf => by
    obtain ⟨f, rfl⟩ : ∃ m, f = m + 1 := ⟨f - 1, by have : 1 ≤ f := hf; omega⟩
    have h' := Bool.and_eq_true_iff.mp (show (a.ok && b.ok) = true from h)
    have ta := fun t : EH => callPK_ok (F := F__law_value_text) (h := t) (ltext h'.1) (go1 a.noRef)
    have tb := fun t : EH => callPK_ok (F := F__law_value_text) (h := t) (ltext h'.2) (go1 b.noRef)
    have l' : (a.txt ++ ([32] ++ (o.s ++ ([32] ++ b.txt)))).length ≤ 16000000 := l
    simp only [List.length_append, List.length_cons, List.length_nil] at l'
    show endP (m__law_condition_text (F__law_condition_text_ f) [some (Cd.cmp o a b).d, none, none] []) = _
    simp only [m__law_condition_text, lw_fold, Cd.d, ↓seq_ap, ↓var_ap, ↓c_ap, ↓bin_ap, ↓tst_ap, ↓not_ap, ↓and_ap, ↓or_ap, ↓if_ap, ↓andv_ap, ↓orv_ap, ↓notv_ap, ↓nil_ap, ↓cons_ap, ↓tup_ap, ↓lst_ap, ↓call_ap, ↓callP_ap, ↓callI_ap, ↓perm_ap, ↓nop_ap, ↓smp_ap, ↓sl_ap, ↓chain_ap, ↓isi_ap, ↓lc_ap, ↓lstC_ap, ↓mts_ap, ↓yes_ap, ↓il_ap, ↓it_ap, ↓is_ap, ↓ir1_ap, ↓iz_ap, ↓snil_ap, ↓ret_ap, ↓sif_ap, ↓sexpr_ap, ↓bk_ap, ↓ct_ap, ↓asg_ap, ↓for_ap, ↓par_ap, ↓gname_ap, ↓gnil_ap, ↓gcons_ap, ↓gtup_ap, ↓gsub_ap, bR_ok, bR_ex, rt_some, sq_nx, sq_rt, sq_bk, sq_ct, sq_ex, bS_ok, bS_ex, binK1_ap, binK2_ap, tstK_b, notK_ap, andK_t, andK_f, orK_t, orK_f, ifK_t, ifK_f, andV_t, andV_f, orV_t, orV_f, notV_c, consK1_ap, consK2_ap, tupK_ok, lstK_ok, callK_ap, permK_ap, smP_int, slK1_ap, slK2_ap, slK3_ap, sl_lst, sl_scr, sl_tup, chK1_ap, chK2_ap, chK3_t, chK3_f, chK4_ap, isiK_int, isiK_str, isiK_bl, isiK_non, isiK_tup, isiK_lst, mtsK_str, mtsK2_ap, ilK_lst, ilK_scr, itK_tup, isK_str, izK_l, izK_t, retK_ap, sifK_t, sifK_f, sexprK_ap, asgK_ap, bG_ok, forK_ap, parK_ok, gK_ok, subK1_ok, subK2_ok, add_int, sub_int, mod_int, lt_int, le_int, gt_int, ge_int, eq_int, eq_str, eq_bl, eq_is, eq_si, eq_bs, eq_sb, eq_nn, ne_int, ne_str, ne_bl, isn_ap, isN_int, isN_str, isN_bl, isN_tup, isN_lst, isN_non, ix_lst, ix_tup, ix_scr, len_lst, len_tup, int_int, list_lst, list_tup, tuple_lst, tuple_tup, asB_bl, getD0, getDS, set0, setS, at0, atS, map_some', bind_some', List.length_cons, List.length_nil, List.any_cons, List.any_nil, ↓fld_ap, ↓mei_ap, ↓faug_ap, ↓c1_ap, ↓ir2_ap, ↓sfld_ap, fldK_ap, meiK2_ap, c1K_ap, sfldK_ap, sfldK2_ap, decide_true, decide_false, and_self, Nat.reduceLeDiff, Nat.reduceAdd, if_true, Int.reduceLT, Int.reduceNeg, Int.reducePow, Int.reduceToNat, Int.reduceLE, Nat.reduceLT, Int.reduceAdd, Int.reduceSub, Bool.not_true, Bool.not_false, Int.reduceEq, bne_self_eq_false, Bool.false_bne, Bool.true_bne, Int.reduceBNe, atl0, atl1, atl2, in_ao, cw_ao, cw_nt, cw_fnd, cw_tru, lw_ok, lw_ix, ta, tb, add_str (a := a.txt) (b := [32] ++ (o.s ++ [32])) (by simp; omega), add_str (a := a.txt ++ ([32] ++ (o.s ++ [32]))) (b := b.txt) (by simp; omega)]
    rw [endP_ok rfl]
    simp [Cd.txt]
  | .tru, f, h, l, hf => by
    obtain ⟨f, rfl⟩ : ∃ m, f = m + 1 := ⟨f - 1, by have : 1 ≤ f := hf; omega⟩
    show endP (m__law_condition_text (F__law_condition_text_ f) [some Cd.tru.d, none, none] []) = _
    simp only [m__law_condition_text, lw_fold, Cd.d, ↓seq_ap, ↓var_ap, ↓c_ap, ↓bin_ap, ↓tst_ap, ↓not_ap, ↓and_ap, ↓or_ap, ↓if_ap, ↓andv_ap, ↓orv_ap, ↓notv_ap, ↓nil_ap, ↓cons_ap, ↓tup_ap, ↓lst_ap, ↓call_ap, ↓callP_ap, ↓callI_ap, ↓perm_ap, ↓nop_ap, ↓smp_ap, ↓sl_ap, ↓chain_ap, ↓isi_ap, ↓lc_ap, ↓lstC_ap, ↓mts_ap, ↓yes_ap, ↓il_ap, ↓it_ap, ↓is_ap, ↓ir1_ap, ↓iz_ap, ↓snil_ap, ↓ret_ap, ↓sif_ap, ↓sexpr_ap, ↓bk_ap, ↓ct_ap, ↓asg_ap, ↓for_ap, ↓par_ap, ↓gname_ap, ↓gnil_ap, ↓gcons_ap, ↓gtup_ap, ↓gsub_ap, bR_ok, bR_ex, rt_some, sq_nx, sq_rt, sq_bk, sq_ct, sq_ex, bS_ok, bS_ex, binK1_ap, binK2_ap, tstK_b, notK_ap, andK_t, andK_f, orK_t, orK_f, ifK_t, ifK_f, andV_t, andV_f, orV_t, orV_f, notV_c, consK1_ap, consK2_ap, tupK_ok, lstK_ok, callK_ap, permK_ap, smP_int, slK1_ap, slK2_ap, slK3_ap, sl_lst, sl_scr, sl_tup, chK1_ap, chK2_ap, chK3_t, chK3_f, chK4_ap, isiK_int, isiK_str, isiK_bl, isiK_non, isiK_tup, isiK_lst, mtsK_str, mtsK2_ap, ilK_lst, ilK_scr, itK_tup, isK_str, izK_l, izK_t, retK_ap, sifK_t, sifK_f, sexprK_ap, asgK_ap, bG_ok, forK_ap, parK_ok, gK_ok, subK1_ok, subK2_ok, add_int, sub_int, mod_int, lt_int, le_int, gt_int, ge_int, eq_int, eq_str, eq_bl, eq_is, eq_si, eq_bs, eq_sb, eq_nn, ne_int, ne_str, ne_bl, isn_ap, isN_int, isN_str, isN_bl, isN_tup, isN_lst, isN_non, ix_lst, ix_tup, ix_scr, len_lst, len_tup, int_int, list_lst, list_tup, tuple_lst, tuple_tup, asB_bl, getD0, getDS, set0, setS, at0, atS, map_some', bind_some', List.length_cons, List.length_nil, List.any_cons, List.any_nil, ↓fld_ap, ↓mei_ap, ↓faug_ap, ↓c1_ap, ↓ir2_ap, ↓sfld_ap, fldK_ap, meiK2_ap, c1K_ap, sfldK_ap, sfldK2_ap, decide_true, decide_false, and_self, Nat.reduceLeDiff, Nat.reduceAdd, if_true, Int.reduceLT, Int.reduceNeg, Int.reducePow, Int.reduceToNat, Int.reduceLE, Nat.reduceLT, Int.reduceAdd, Int.reduceSub, Bool.not_true, Bool.not_false, Int.reduceEq, bne_self_eq_false, Bool.false_bne, Bool.true_bne, Int.reduceBNe, atl0, in_ao, show ¬ ([116, 114, 117, 101] ∈ [[97, 110, 100], [111, 114]]) by decide, List.cons.injEq, Nat.reduceEqDiff, false_and, and_false, lw_ok]
    exact endP_ok rfl
  | .fnd z, f, h, l, hf => by
    obtain ⟨f, rfl⟩ : ∃ m, f = m + 1 := ⟨f - 1, by have : 1 ≤ f := hf; omega⟩
    have lz := isNm_len (show isNm z = true from h)
    show endP (m__law_condition_text (F__law_condition_text_ f) [some (Cd.fnd z).d, none, none] []) = _
    simp only [m__law_condition_text, lw_fold, Cd.d, ↓seq_ap, ↓var_ap, ↓c_ap, ↓bin_ap, ↓tst_ap, ↓not_ap, ↓and_ap, ↓or_ap, ↓if_ap, ↓andv_ap, ↓orv_ap, ↓notv_ap, ↓nil_ap, ↓cons_ap, ↓tup_ap, ↓lst_ap, ↓call_ap, ↓callP_ap, ↓callI_ap, ↓perm_ap, ↓nop_ap, ↓smp_ap, ↓sl_ap, ↓chain_ap, ↓isi_ap, ↓lc_ap, ↓lstC_ap, ↓mts_ap, ↓yes_ap, ↓il_ap, ↓it_ap, ↓is_ap, ↓ir1_ap, ↓iz_ap, ↓snil_ap, ↓ret_ap, ↓sif_ap, ↓sexpr_ap, ↓bk_ap, ↓ct_ap, ↓asg_ap, ↓for_ap, ↓par_ap, ↓gname_ap, ↓gnil_ap, ↓gcons_ap, ↓gtup_ap, ↓gsub_ap, bR_ok, bR_ex, rt_some, sq_nx, sq_rt, sq_bk, sq_ct, sq_ex, bS_ok, bS_ex, binK1_ap, binK2_ap, tstK_b, notK_ap, andK_t, andK_f, orK_t, orK_f, ifK_t, ifK_f, andV_t, andV_f, orV_t, orV_f, notV_c, consK1_ap, consK2_ap, tupK_ok, lstK_ok, callK_ap, permK_ap, smP_int, slK1_ap, slK2_ap, slK3_ap, sl_lst, sl_scr, sl_tup, chK1_ap, chK2_ap, chK3_t, chK3_f, chK4_ap, isiK_int, isiK_str, isiK_bl, isiK_non, isiK_tup, isiK_lst, mtsK_str, mtsK2_ap, ilK_lst, ilK_scr, itK_tup, isK_str, izK_l, izK_t, retK_ap, sifK_t, sifK_f, sexprK_ap, asgK_ap, bG_ok, forK_ap, parK_ok, gK_ok, subK1_ok, subK2_ok, add_int, sub_int, mod_int, lt_int, le_int, gt_int, ge_int, eq_int, eq_str, eq_bl, eq_is, eq_si, eq_bs, eq_sb, eq_nn, ne_int, ne_str, ne_bl, isn_ap, isN_int, isN_str, isN_bl, isN_tup, isN_lst, isN_non, ix_lst, ix_tup, ix_scr, len_lst, len_tup, int_int, list_lst, list_tup, tuple_lst, tuple_tup, asB_bl, getD0, getDS, set0, setS, at0, atS, map_some', bind_some', List.length_cons, List.length_nil, List.any_cons, List.any_nil, ↓fld_ap, ↓mei_ap, ↓faug_ap, ↓c1_ap, ↓ir2_ap, ↓sfld_ap, fldK_ap, meiK2_ap, c1K_ap, sfldK_ap, sfldK2_ap, decide_true, decide_false, and_self, Nat.reduceLeDiff, Nat.reduceAdd, if_true, Int.reduceLT, Int.reduceNeg, Int.reducePow, Int.reduceToNat, Int.reduceLE, Nat.reduceLT, Int.reduceAdd, Int.reduceSub, Bool.not_true, Bool.not_false, Int.reduceEq, bne_self_eq_false, Bool.false_bne, Bool.true_bne, Int.reduceBNe, atl0, atl1, in_ao, show ¬ ([102, 111, 117, 110, 100] ∈ [[97, 110, 100], [111, 114]]) by decide, List.cons.injEq, Nat.reduceEqDiff, false_and, and_false, add_str (a := [102, 111, 117, 110, 100, 32]) (b := z) (by simp; omega)]
    exact endP_ok rfl
  | .nt c, f, h, l, hf => by
    obtain ⟨f, rfl⟩ : ∃ m, f = m + 1 := ⟨f - 1, by have : c.dep + 1 ≤ f := hf; omega⟩
    have l' : ([110, 111, 116, 32] ++ c.txt).length ≤ 16000000 := l
    simp only [List.length_append, List.length_cons, List.length_nil] at l'
    have hf' : c.dep + 1 ≤ f + 1 := hf
    have tc := callPK_ok (F := F__law_condition_text_ f) (h := []) (ltx c f h (by omega) (by omega)) (go1 c.noRef)
    show endP (m__law_condition_text (F__law_condition_text_ f) [some (Cd.nt c).d, none, none] []) = _
    simp only [m__law_condition_text, lw_fold, Cd.d, ↓seq_ap, ↓var_ap, ↓c_ap, ↓bin_ap, ↓tst_ap, ↓not_ap, ↓and_ap, ↓or_ap, ↓if_ap, ↓andv_ap, ↓orv_ap, ↓notv_ap, ↓nil_ap, ↓cons_ap, ↓tup_ap, ↓lst_ap, ↓call_ap, ↓callP_ap, ↓callI_ap, ↓perm_ap, ↓nop_ap, ↓smp_ap, ↓sl_ap, ↓chain_ap, ↓isi_ap, ↓lc_ap, ↓lstC_ap, ↓mts_ap, ↓yes_ap, ↓il_ap, ↓it_ap, ↓is_ap, ↓ir1_ap, ↓iz_ap, ↓snil_ap, ↓ret_ap, ↓sif_ap, ↓sexpr_ap, ↓bk_ap, ↓ct_ap, ↓asg_ap, ↓for_ap, ↓par_ap, ↓gname_ap, ↓gnil_ap, ↓gcons_ap, ↓gtup_ap, ↓gsub_ap, bR_ok, bR_ex, rt_some, sq_nx, sq_rt, sq_bk, sq_ct, sq_ex, bS_ok, bS_ex, binK1_ap, binK2_ap, tstK_b, notK_ap, andK_t, andK_f, orK_t, orK_f, ifK_t, ifK_f, andV_t, andV_f, orV_t, orV_f, notV_c, consK1_ap, consK2_ap, tupK_ok, lstK_ok, callK_ap, permK_ap, smP_int, slK1_ap, slK2_ap, slK3_ap, sl_lst, sl_scr, sl_tup, chK1_ap, chK2_ap, chK3_t, chK3_f, chK4_ap, isiK_int, isiK_str, isiK_bl, isiK_non, isiK_tup, isiK_lst, mtsK_str, mtsK2_ap, ilK_lst, ilK_scr, itK_tup, isK_str, izK_l, izK_t, retK_ap, sifK_t, sifK_f, sexprK_ap, asgK_ap, bG_ok, forK_ap, parK_ok, gK_ok, subK1_ok, subK2_ok, add_int, sub_int, mod_int, lt_int, le_int, gt_int, ge_int, eq_int, eq_str, eq_bl, eq_is, eq_si, eq_bs, eq_sb, eq_nn, ne_int, ne_str, ne_bl, isn_ap, isN_int, isN_str, isN_bl, isN_tup, isN_lst, isN_non, ix_lst, ix_tup, ix_scr, len_lst, len_tup, int_int, list_lst, list_tup, tuple_lst, tuple_tup, asB_bl, getD0, getDS, set0, setS, at0, atS, map_some', bind_some', List.length_cons, List.length_nil, List.any_cons, List.any_nil, ↓fld_ap, ↓mei_ap, ↓faug_ap, ↓c1_ap, ↓ir2_ap, ↓sfld_ap, fldK_ap, meiK2_ap, c1K_ap, sfldK_ap, sfldK2_ap, decide_true, decide_false, and_self, Nat.reduceLeDiff, Nat.reduceAdd, if_true, Int.reduceLT, Int.reduceNeg, Int.reducePow, Int.reduceToNat, Int.reduceLE, Nat.reduceLT, Int.reduceAdd, Int.reduceSub, Bool.not_true, Bool.not_false, Int.reduceEq, bne_self_eq_false, Bool.false_bne, Bool.true_bne, Int.reduceBNe, atl0, atl1, in_ao, show ¬ ([110, 111, 116] ∈ [[97, 110, 100], [111, 114]]) by decide, tc, add_str (a := [110, 111, 116, 32]) (b := c.txt) (by simp; omega)]
    exact endP_ok rfl
  | .bin j c d, f, h, l, hf => by
    obtain ⟨f, rfl⟩ : ∃ m, f = m + 1 := ⟨f - 1, by have : max c.dep d.dep + 1 ≤ f := hf; omega⟩
    have h' := Bool.and_eq_true_iff.mp (show (c.ok && d.ok) = true from h)
    have l' : ([40] ++ (c.txt ++ ([32] ++ (jw j ++ ([32] ++ (d.txt ++ [41])))))).length ≤ 16000000 := l
    simp only [List.length_append, List.length_cons, List.length_nil] at l'
    have hf' : max c.dep d.dep + 1 ≤ f + 1 := hf
    have tc := callPK_ok (F := F__law_condition_text_ f) (h := []) (ltx c f h'.1 (by omega) (by omega)) (go1 c.noRef)
    have td := callPK_ok (F := F__law_condition_text_ f) (h := []) (ltx d f h'.2 (by omega) (by omega)) (go1 d.noRef)
    show endP (m__law_condition_text (F__law_condition_text_ f) [some (Cd.bin j c d).d, none, none] []) = _
    simp only [m__law_condition_text, lw_fold, Cd.d, ↓seq_ap, ↓var_ap, ↓c_ap, ↓bin_ap, ↓tst_ap, ↓not_ap, ↓and_ap, ↓or_ap, ↓if_ap, ↓andv_ap, ↓orv_ap, ↓notv_ap, ↓nil_ap, ↓cons_ap, ↓tup_ap, ↓lst_ap, ↓call_ap, ↓callP_ap, ↓callI_ap, ↓perm_ap, ↓nop_ap, ↓smp_ap, ↓sl_ap, ↓chain_ap, ↓isi_ap, ↓lc_ap, ↓lstC_ap, ↓mts_ap, ↓yes_ap, ↓il_ap, ↓it_ap, ↓is_ap, ↓ir1_ap, ↓iz_ap, ↓snil_ap, ↓ret_ap, ↓sif_ap, ↓sexpr_ap, ↓bk_ap, ↓ct_ap, ↓asg_ap, ↓for_ap, ↓par_ap, ↓gname_ap, ↓gnil_ap, ↓gcons_ap, ↓gtup_ap, ↓gsub_ap, bR_ok, bR_ex, rt_some, sq_nx, sq_rt, sq_bk, sq_ct, sq_ex, bS_ok, bS_ex, binK1_ap, binK2_ap, tstK_b, notK_ap, andK_t, andK_f, orK_t, orK_f, ifK_t, ifK_f, andV_t, andV_f, orV_t, orV_f, notV_c, consK1_ap, consK2_ap, tupK_ok, lstK_ok, callK_ap, permK_ap, smP_int, slK1_ap, slK2_ap, slK3_ap, sl_lst, sl_scr, sl_tup, chK1_ap, chK2_ap, chK3_t, chK3_f, chK4_ap, isiK_int, isiK_str, isiK_bl, isiK_non, isiK_tup, isiK_lst, mtsK_str, mtsK2_ap, ilK_lst, ilK_scr, itK_tup, isK_str, izK_l, izK_t, retK_ap, sifK_t, sifK_f, sexprK_ap, asgK_ap, bG_ok, forK_ap, parK_ok, gK_ok, subK1_ok, subK2_ok, add_int, sub_int, mod_int, lt_int, le_int, gt_int, ge_int, eq_int, eq_str, eq_bl, eq_is, eq_si, eq_bs, eq_sb, eq_nn, ne_int, ne_str, ne_bl, isn_ap, isN_int, isN_str, isN_bl, isN_tup, isN_lst, isN_non, ix_lst, ix_tup, ix_scr, len_lst, len_tup, int_int, list_lst, list_tup, tuple_lst, tuple_tup, asB_bl, getD0, getDS, set0, setS, at0, atS, map_some', bind_some', List.length_cons, List.length_nil, List.any_cons, List.any_nil, ↓fld_ap, ↓mei_ap, ↓faug_ap, ↓c1_ap, ↓ir2_ap, ↓sfld_ap, fldK_ap, meiK2_ap, c1K_ap, sfldK_ap, sfldK2_ap, decide_true, decide_false, and_self, Nat.reduceLeDiff, Nat.reduceAdd, if_true, Int.reduceLT, Int.reduceNeg, Int.reducePow, Int.reduceToNat, Int.reduceLE, Nat.reduceLT, Int.reduceAdd, Int.reduceSub, Bool.not_true, Bool.not_false, Int.reduceEq, bne_self_eq_false, Bool.false_bne, Bool.true_bne, Int.reduceBNe, atl0, atl1, atl2, in_ao, jw_ao, tc, td, add_str (a := [40]) (b := c.txt) (by simp; omega), add_str (a := [40] ++ c.txt) (b := [32]) (by simp; omega),
      add_str (a := [40] ++ c.txt ++ [32]) (b := jw j) (by simp; omega), add_str (a := [40] ++ c.txt ++ [32] ++ jw j) (b := [32]) (by simp; omega), add_str (a := [40] ++ c.txt ++ [32] ++ jw j ++ [32]) (b := d.txt) (by simp; omega), add_str (a := [40] ++ c.txt ++ [32] ++ jw j ++ [32] ++ d.txt) (b := [41]) (by simp; omega)]
    rw [endP_ok rfl]
    simp [Cd.txt]
end PV

namespace PV
open PySem PD
/-! ## reading -/
theorem ptxt_not {p : Pl} (h : p.ok = true) {s : Nat} (h1 : s ≠ 46) (h2 : s ≠ 45) (h3 : s < 48 ∨ (57 < s ∧ s < 97)) : s ∉ p.txt := by
  have hs' : s < 97 ∨ 122 < s := by omega
  cases p with
  | num n => exact decI_free (by omega)
  | name z => exact nm_free h hs'
  | field z y =>
    have h' := Bool.and_eq_true_iff.mp (show (isNm z && isCol y) = true from h)
    intro hm
    rcases List.mem_append.mp (show s ∈ z ++ ([46] ++ y) from hm) with hm | hm
    · exact nm_free h'.1 hs' hm
    · rcases List.mem_cons.mp hm with hm | hm
      · exact h1 hm
      · exact col_free h'.2 hs' hm
  | own y =>
    intro hm
    rcases List.mem_append.mp (show s ∈ sOwn ++ ([46] ++ y) from hm) with hm | hm
    · simp only [sOwn, List.mem_cons, List.not_mem_nil, or_false] at hm
      omega
    · rcases List.mem_cons.mp hm with hm | hm
      · exact h1 hm
      · exact col_free h hs' hm
  | next y =>
    intro hm
    rcases List.mem_append.mp (show s ∈ sNext ++ ([46] ++ y) from hm) with hm | hm
    · simp only [sNext, List.mem_cons, List.not_mem_nil, or_false] at hm
      omega
    · rcases List.mem_cons.mp hm with hm | hm
      · exact h1 hm
      · exact col_free h hs' hm
theorem ptxt_stops {p : Pl} (h : p.ok = true) : ∀ c ∈ p.txt, c ∉ stops := fun c hc hs => by
  simp only [stops, List.mem_cons, List.not_mem_nil, or_false] at hs
  exact ptxt_not h (s := c) (by omega) (by omega) (by omega) hc
theorem decI_stops (i : Int) : ∀ c ∈ decI i, c ∉ stops := fun c hc hs => by
  simp only [stops, List.mem_cons, List.not_mem_nil, or_false] at hs
  exact decI_free (i := i) (s := c) (by omega) hc
theorem nm_stops {z : List Nat} (h : isNm z = true) : ∀ c ∈ z, c ∉ stops := fun c hc hs => by
  simp only [stops, List.mem_cons, List.not_mem_nil, or_false] at hs
  exact nm_free h (s := c) (by omega) hc
theorem ptxt_resv {p : Pl} (h : p.ok = true) {w : List Nat} (hw : w ∈ resv) : p.txt ≠ w := by
  have hl : ∀ w ∈ resv, w ≠ [] ∧ (∀ c ∈ w, 97 ≤ c) := by decide
  obtain ⟨hne, hc⟩ := hl w hw
  intro e
  cases p with
  | num n =>
    have e' : decI n = w := e
    cases q : w with
    | nil => exact hne q
    | cons c r =>
      have hm : c ∈ decI n := by rw [e', q]; exact List.mem_cons_self
      have := hc c (by rw [q]; exact List.mem_cons_self)
      exact decI_free (i := n) (s := c) (by omega) hm
  | name z =>
    have e' : z = w := e
    have hz : isNm z = true := h
    unfold isNm at hz
    simp only [Bool.and_eq_true, Bool.not_eq_true', decide_eq_false_iff_not] at hz
    exact hz.2.2.1 (e' ▸ hw)
  | field z y =>
    have := hc 46 (by rw [← e]; show 46 ∈ z ++ ([46] ++ y); simp)
    omega
  | own y =>
    have := hc 46 (by rw [← e]; show 46 ∈ sOwn ++ ([46] ++ y); simp)
    omega
  | next y =>
    have := hc 46 (by rw [← e]; show 46 ∈ sNext ++ ([46] ++ y); simp)
    omega
theorem ptxt_ne {p : Pl} (h : p.ok = true) : p.txt ≠ [] := by
  intro e
  cases p with
  | num n => have := decI_len (isCon_abs (show isCon n = true from h)); rw [show decI n = [] from e] at this; simp at this
  | name z => have := isNm_len (show isNm z = true from h); rw [show z = [] from e] at this; simp at this
  | field z y => have e' : z ++ ([46] ++ y) = [] := e; simp at e'
  | own y => have e' : sOwn ++ ([46] ++ y) = [] := e; simp at e'
  | next y => have e' : sNext ++ ([46] ++ y) = [] := e; simp at e'
theorem ptxt_40 {p : Pl} (h : p.ok = true) (q : List Nat) : ¬ [40] <+: p.txt ++ q := by
  intro hp
  cases e : p.txt with
  | nil => exact ptxt_ne h e
  | cons c r =>
    rw [e, List.cons_append, List.cons_prefix_cons] at hp
    exact ptxt_not h (s := 40) (by decide) (by decide) (.inl (by decide)) (by rw [e, hp.1]; exact List.mem_cons_self)
theorem word_pre : ∀ {w z q : List Nat}, 32 ∉ z → 32 ∉ w → (w ++ [32]) <+: z ++ 32 :: q → w = z
  | [], [], _, _, _, _ => rfl
  | [], c :: z, q, hz, _, h => by
    rw [List.nil_append, List.cons_append, List.cons_prefix_cons] at h
    exact absurd (by rw [h.1]; exact List.mem_cons_self) hz
  | c :: w, [], q, _, hw, h => by
    rw [List.cons_append, List.nil_append, List.cons_prefix_cons] at h
    exact absurd (by rw [h.1]; exact List.mem_cons_self) hw
  | c :: w, e :: z, q, hz, hw, h => by
    rw [List.cons_append, List.cons_append, List.cons_prefix_cons] at h
    rw [h.1, word_pre (fun hm => hz (List.mem_cons_of_mem _ hm)) (fun hm => hw (List.mem_cons_of_mem _ hm)) h.2]
/-! ### comes, by what stands there -/
theorem comes_t {t : EH} {s w r : List Nat} {k : Nat} (hk : k ≤ s.length) (hw : w.length ≤ 1000) (e : s.drop k = w ++ r) : F_ConditionReader_comes [.ref t.length, .str w] (t ++ [rd s k]) = some (.ok (.bl true), t ++ [rd s (k + w.length)]) := by
  rw [comes_ok hk (by omega)]
  have q : w <+: s.drop k := by rw [e]; exact List.prefix_append _ _
  rw [if_pos q, decide_eq_true q]
theorem comes_f {t : EH} {s w r : List Nat} {k : Nat} (hk : k ≤ s.length) (hw : w.length ≤ 1000) (e : s.drop k = r) (n : ¬ w <+: r) : F_ConditionReader_comes [.ref t.length, .str w] (t ++ [rd s k]) = some (.ok (.bl false), t ++ [rd s k]) := by
  rw [comes_ok hk (by omega)]
  rw [← e] at n
  rw [if_neg n, decide_eq_false n]
/-! ### a value -/
def NotPM (r : List Nat) : Prop := ¬ [32, 43, 32] <+: r ∧ ¬ [32, 45, 32] <+: r
theorem stop32 {q : List Nat} : Stop (32 :: q) := fun c r' e => by
  injection e with e1 _
  rw [← e1]; decide
theorem callP1 {F : PF} {d r : D} {t : EH} (e : F [d] = some (.ok r)) (h : noRef d = true) : callPK F [d] t = some (.ok r, t) := callPK_ok e (go1 h)
theorem value_loop {t : EH} {s : List Nat} {k : Nat} {z : List Nat} (hs : s.length ≤ 8000) (hk : k ≤ s.length) (lz : z.length ≤ 1000) (v : Vl) (hv : v.ok = true) (r : List Nat) (hr : Stop r) (hn : NotPM r)
    (e : (∃ p, v = .pl p ∧ z = p.txt ∧ s.drop k = r) ∨ (∃ p m, v = .plus p m ∧ z = p.txt ∧ s.drop k = pTail m ++ r)) :
    ∃ x, forL (mgName 2) mb_ConditionReader_value_0 [.str [32, 43, 32], .str [32, 45, 32]] [some (.ref t.length), some (.str z), none] (t ++ [rd s k]) = some (.nx [some (.ref t.length), some (.str v.txt), x], t ++ [rd s (s.length - r.length)]) := by
  have go : ∀ {h : EH} (d : D) (x : Option D), mgName 2 d [some (.ref t.length), some (.str z), x] h = some ([some (.ref t.length), some (.str z), some d], h) := fun _ _ => rfl
  have no : ∀ {sg : List Nat} {k : Nat}, sg.length ≤ 1000 → k ≤ s.length → ¬ sg <+: s.drop k → mb_ConditionReader_value_0 [some (.ref t.length), some (.str z), some (.str sg)] (t ++ [rd s k]) = some (.nx [some (.ref t.length), some (.str z), some (.str sg)], t ++ [rd s k]) := by
    intro sg k l hk n
    have c := comes_f (t := t) (w := sg) hk l rfl n
    have mm := fun ε : Ev => fun a : M (List D) => mei_rd (t := t) (s := s) (k := k) (ε := ε) (m := "comes") (F := F_ConditionReader_comes) (a := a) (by kernel_rfl)
    simp only [mb_ConditionReader_value_0, ↓seq_ap, ↓var_ap, ↓c_ap, ↓bin_ap, ↓tst_ap, ↓not_ap, ↓and_ap, ↓or_ap, ↓if_ap, ↓andv_ap, ↓orv_ap, ↓notv_ap, ↓nil_ap, ↓cons_ap, ↓tup_ap, ↓lst_ap, ↓call_ap, ↓callP_ap, ↓callI_ap, ↓perm_ap, ↓nop_ap, ↓smp_ap, ↓sl_ap, ↓chain_ap, ↓isi_ap, ↓lc_ap, ↓lstC_ap, ↓mts_ap, ↓yes_ap, ↓il_ap, ↓it_ap, ↓is_ap, ↓ir1_ap, ↓iz_ap, ↓snil_ap, ↓ret_ap, ↓sif_ap, ↓sexpr_ap, ↓bk_ap, ↓ct_ap, ↓asg_ap, ↓for_ap, ↓par_ap, ↓gname_ap, ↓gnil_ap, ↓gcons_ap, ↓gtup_ap, ↓gsub_ap, bR_ok, bR_ex, rt_some, sq_nx, sq_rt, sq_bk, sq_ct, sq_ex, bS_ok, bS_ex, binK1_ap, binK2_ap, tstK_b, notK_ap, andK_t, andK_f, orK_t, orK_f, ifK_t, ifK_f, andV_t, andV_f, orV_t, orV_f, notV_c, consK1_ap, consK2_ap, tupK_ok, lstK_ok, callK_ap, permK_ap, smP_int, slK1_ap, slK2_ap, slK3_ap, sl_lst, sl_scr, sl_tup, chK1_ap, chK2_ap, chK3_t, chK3_f, chK4_ap, isiK_int, isiK_str, isiK_bl, isiK_non, isiK_tup, isiK_lst, mtsK_str, mtsK2_ap, ilK_lst, ilK_scr, itK_tup, isK_str, izK_l, izK_t, retK_ap, sifK_t, sifK_f, sexprK_ap, asgK_ap, bG_ok, forK_ap, parK_ok, gK_ok, subK1_ok, subK2_ok, add_int, sub_int, mod_int, lt_int, le_int, gt_int, ge_int, eq_int, eq_str, eq_bl, eq_is, eq_si, eq_bs, eq_sb, eq_nn, ne_int, ne_str, ne_bl, isn_ap, isN_int, isN_str, isN_bl, isN_tup, isN_lst, isN_non, ix_lst, ix_tup, ix_scr, len_lst, len_tup, int_int, list_lst, list_tup, tuple_lst, tuple_tup, asB_bl, getD0, getDS, set0, setS, at0, atS, map_some', bind_some', List.length_cons, List.length_nil, List.any_cons, List.any_nil, ↓fld_ap, ↓mei_ap, ↓faug_ap, ↓c1_ap, ↓ir2_ap, ↓sfld_ap, fldK_ap, meiK2_ap, c1K_ap, sfldK_ap, sfldK2_ap, decide_true, decide_false, and_self, Nat.reduceLeDiff, Nat.reduceAdd, if_true, Int.reduceLT, Int.reduceNeg, Int.reducePow, Int.reduceToNat, Int.reduceLE, Nat.reduceLT, Int.reduceAdd, Int.reduceSub, Bool.not_true, Bool.not_false, Int.reduceEq, bne_self_eq_false, Bool.false_bne, Bool.true_bne, Int.reduceBNe, mm, c]
  have yes : ∀ {sg y q : List Nat} {k : Nat} {z : List Nat}, sg.length ≤ 1000 → z.length ≤ 1000 → y.length ≤ 1000 → k ≤ s.length → s.drop k = sg ++ (y ++ q) → (∀ c ∈ y, c ∉ stops) → Stop q →
      mb_ConditionReader_value_0 [some (.ref t.length), some (.str z), some (.str sg)] (t ++ [rd s k]) = some (.nx [some (.ref t.length), some (.str (z ++ sg ++ y)), some (.str sg)], t ++ [rd s (k + sg.length + y.length)]) := by
    intro sg y q k z l lz ly hk e hy hq
    have c := comes_t (t := t) (w := sg) hk l e
    have k1 := drop_le hk e
    have sg' := signs_ok (t := t) hs k1 (drop_app e) hy hq
    have mm := fun ε : Ev => fun a : M (List D) => mei_rd (t := t) (s := s) (k := k) (ε := ε) (m := "comes") (F := F_ConditionReader_comes) (a := a) (by kernel_rfl)
    have mm2 := fun ε : Ev => fun a : M (List D) => mei_rd (t := t) (s := s) (k := k + sg.length) (ε := ε) (m := "signs") (F := F_ConditionReader_signs) (a := a) (by kernel_rfl)
    simp only [mb_ConditionReader_value_0, ↓seq_ap, ↓var_ap, ↓c_ap, ↓bin_ap, ↓tst_ap, ↓not_ap, ↓and_ap, ↓or_ap, ↓if_ap, ↓andv_ap, ↓orv_ap, ↓notv_ap, ↓nil_ap, ↓cons_ap, ↓tup_ap, ↓lst_ap, ↓call_ap, ↓callP_ap, ↓callI_ap, ↓perm_ap, ↓nop_ap, ↓smp_ap, ↓sl_ap, ↓chain_ap, ↓isi_ap, ↓lc_ap, ↓lstC_ap, ↓mts_ap, ↓yes_ap, ↓il_ap, ↓it_ap, ↓is_ap, ↓ir1_ap, ↓iz_ap, ↓snil_ap, ↓ret_ap, ↓sif_ap, ↓sexpr_ap, ↓bk_ap, ↓ct_ap, ↓asg_ap, ↓for_ap, ↓par_ap, ↓gname_ap, ↓gnil_ap, ↓gcons_ap, ↓gtup_ap, ↓gsub_ap, bR_ok, bR_ex, rt_some, sq_nx, sq_rt, sq_bk, sq_ct, sq_ex, bS_ok, bS_ex, binK1_ap, binK2_ap, tstK_b, notK_ap, andK_t, andK_f, orK_t, orK_f, ifK_t, ifK_f, andV_t, andV_f, orV_t, orV_f, notV_c, consK1_ap, consK2_ap, tupK_ok, lstK_ok, callK_ap, permK_ap, smP_int, slK1_ap, slK2_ap, slK3_ap, sl_lst, sl_scr, sl_tup, chK1_ap, chK2_ap, chK3_t, chK3_f, chK4_ap, isiK_int, isiK_str, isiK_bl, isiK_non, isiK_tup, isiK_lst, mtsK_str, mtsK2_ap, ilK_lst, ilK_scr, itK_tup, isK_str, izK_l, izK_t, retK_ap, sifK_t, sifK_f, sexprK_ap, asgK_ap, bG_ok, forK_ap, parK_ok, gK_ok, subK1_ok, subK2_ok, add_int, sub_int, mod_int, lt_int, le_int, gt_int, ge_int, eq_int, eq_str, eq_bl, eq_is, eq_si, eq_bs, eq_sb, eq_nn, ne_int, ne_str, ne_bl, isn_ap, isN_int, isN_str, isN_bl, isN_tup, isN_lst, isN_non, ix_lst, ix_tup, ix_scr, len_lst, len_tup, int_int, list_lst, list_tup, tuple_lst, tuple_tup, asB_bl, getD0, getDS, set0, setS, at0, atS, map_some', bind_some', List.length_cons, List.length_nil, List.any_cons, List.any_nil, ↓fld_ap, ↓mei_ap, ↓faug_ap, ↓c1_ap, ↓ir2_ap, ↓sfld_ap, fldK_ap, meiK2_ap, c1K_ap, sfldK_ap, sfldK2_ap, decide_true, decide_false, and_self, Nat.reduceLeDiff, Nat.reduceAdd, if_true, Int.reduceLT, Int.reduceNeg, Int.reducePow, Int.reduceToNat, Int.reduceLE, Nat.reduceLT, Int.reduceAdd, Int.reduceSub, Bool.not_true, Bool.not_false, Int.reduceEq, bne_self_eq_false, Bool.false_bne, Bool.true_bne, Int.reduceBNe, mm, mm2, c, sg', add_str (a := z) (b := sg) (by omega), add_str (a := z ++ sg) (b := y) (by simp; omega)]
  rcases e with ⟨p, rfl, rfl, e⟩ | ⟨p, m, rfl, rfl, e⟩
  · have ek : k = s.length - r.length := by
      have := congrArg List.length e
      rw [List.length_drop] at this
      omega
    refine ⟨some (.str [32, 45, 32]), ?_⟩
    rw [forL_nx (go _ _) (no (by decide) hk (by rw [e]; exact hn.1)), forL_nx (go _ _) (no (by decide) hk (by rw [e]; exact hn.2)), forL_nil, ← ek]
    rfl
  · have h' := Bool.and_eq_true_iff.mp (show (p.ok && isCon m) = true from hv)
    unfold pTail at e
    have el : s.length - r.length = k + (pTail m).length := by
      have := congrArg List.length e
      rw [List.length_drop, List.length_append] at this
      have l2 : (pTail m).length = (if m < 0 then [32, 45, 32] ++ decI (0 - m) else [32, 43, 32] ++ decI m).length := rfl
      omega
    by_cases q : m < 0
    · rw [if_pos q, List.append_assoc] at e
      have ld := (decI_len (sub_abs h'.2 q)).2
      have y := yes (sg := [32, 45, 32]) (y := decI (0 - m)) (q := r) (k := k) (z := p.txt) (by decide) lz (by omega) hk e (decI_stops _) hr
      refine ⟨some (.str [32, 45, 32]), ?_⟩
      rw [forL_nx (go _ _) (no (sg := [32, 43, 32]) (by decide) hk (by rw [e]; simp [List.cons_prefix_cons])), forL_nx (go _ _) y, forL_nil, el]
      have e1 : (Vl.plus p m).txt = p.txt ++ [32, 45, 32] ++ decI (0 - m) := by
        show p.txt ++ pTail m = _
        rw [show pTail m = [32, 45, 32] ++ decI (0 - m) from if_pos q, List.append_assoc]
      have e2 : (pTail m).length = 3 + (decI (0 - m)).length := by
        rw [show pTail m = [32, 45, 32] ++ decI (0 - m) from if_pos q, List.length_append]; rfl
      rw [e1, e2, show k + ([32, 45, 32] : List Nat).length + (decI (0 - m)).length = k + (3 + (decI (0 - m)).length) by simp; omega]
    · rw [if_neg q, List.append_assoc] at e
      have ld := (decI_len (isCon_abs h'.2)).2
      have y := yes (sg := [32, 43, 32]) (y := decI m) (q := r) (k := k) (z := p.txt) (by decide) lz (by omega) hk e (decI_stops _) hr
      have k1 := drop_le hk e
      have d1 := drop_app e
      have k2 := drop_le k1 d1
      have d2 := drop_app d1
      refine ⟨some (.str [32, 45, 32]), ?_⟩
      rw [forL_nx (go _ _) y]
      have n2 : mb_ConditionReader_value_0 [some (.ref t.length), some (.str (p.txt ++ [32, 43, 32] ++ decI m)), some (.str [32, 45, 32])] (t ++ [rd s (k + ([32, 43, 32] : List Nat).length + (decI m).length)]) = some (.nx [some (.ref t.length), some (.str (p.txt ++ [32, 43, 32] ++ decI m)), some (.str [32, 45, 32])], t ++ [rd s (k + ([32, 43, 32] : List Nat).length + (decI m).length)]) := by
        have c := comes_f (t := t) (w := [32, 45, 32]) k2 (by decide) d2 hn.2
        have mm := fun ε : Ev => fun a : M (List D) => mei_rd (t := t) (s := s) (k := k + ([32, 43, 32] : List Nat).length + (decI m).length) (ε := ε) (m := "comes") (F := F_ConditionReader_comes) (a := a) (by kernel_rfl)
        simp only [List.length_cons, List.length_nil, Nat.zero_add, Nat.reduceAdd] at mm c ⊢
        simp only [mb_ConditionReader_value_0, ↓seq_ap, ↓var_ap, ↓c_ap, ↓bin_ap, ↓tst_ap, ↓not_ap, ↓and_ap, ↓or_ap, ↓if_ap, ↓andv_ap, ↓orv_ap, ↓notv_ap, ↓nil_ap, ↓cons_ap, ↓tup_ap, ↓lst_ap, ↓call_ap, ↓callP_ap, ↓callI_ap, ↓perm_ap, ↓nop_ap, ↓smp_ap, ↓sl_ap, ↓chain_ap, ↓isi_ap, ↓lc_ap, ↓lstC_ap, ↓mts_ap, ↓yes_ap, ↓il_ap, ↓it_ap, ↓is_ap, ↓ir1_ap, ↓iz_ap, ↓snil_ap, ↓ret_ap, ↓sif_ap, ↓sexpr_ap, ↓bk_ap, ↓ct_ap, ↓asg_ap, ↓for_ap, ↓par_ap, ↓gname_ap, ↓gnil_ap, ↓gcons_ap, ↓gtup_ap, ↓gsub_ap, bR_ok, bR_ex, rt_some, sq_nx, sq_rt, sq_bk, sq_ct, sq_ex, bS_ok, bS_ex, binK1_ap, binK2_ap, tstK_b, notK_ap, andK_t, andK_f, orK_t, orK_f, ifK_t, ifK_f, andV_t, andV_f, orV_t, orV_f, notV_c, consK1_ap, consK2_ap, tupK_ok, lstK_ok, callK_ap, permK_ap, smP_int, slK1_ap, slK2_ap, slK3_ap, sl_lst, sl_scr, sl_tup, chK1_ap, chK2_ap, chK3_t, chK3_f, chK4_ap, isiK_int, isiK_str, isiK_bl, isiK_non, isiK_tup, isiK_lst, mtsK_str, mtsK2_ap, ilK_lst, ilK_scr, itK_tup, isK_str, izK_l, izK_t, retK_ap, sifK_t, sifK_f, sexprK_ap, asgK_ap, bG_ok, forK_ap, parK_ok, gK_ok, subK1_ok, subK2_ok, add_int, sub_int, mod_int, lt_int, le_int, gt_int, ge_int, eq_int, eq_str, eq_bl, eq_is, eq_si, eq_bs, eq_sb, eq_nn, ne_int, ne_str, ne_bl, isn_ap, isN_int, isN_str, isN_bl, isN_tup, isN_lst, isN_non, ix_lst, ix_tup, ix_scr, len_lst, len_tup, int_int, list_lst, list_tup, tuple_lst, tuple_tup, asB_bl, getD0, getDS, set0, setS, at0, atS, map_some', bind_some', List.length_cons, List.length_nil, List.any_cons, List.any_nil, ↓fld_ap, ↓mei_ap, ↓faug_ap, ↓c1_ap, ↓ir2_ap, ↓sfld_ap, fldK_ap, meiK2_ap, c1K_ap, sfldK_ap, sfldK2_ap, decide_true, decide_false, and_self, Nat.reduceLeDiff, Nat.reduceAdd, if_true, Int.reduceLT, Int.reduceNeg, Int.reducePow, Int.reduceToNat, Int.reduceLE, Nat.reduceLT, Int.reduceAdd, Int.reduceSub, Bool.not_true, Bool.not_false, Int.reduceEq, bne_self_eq_false, Bool.false_bne, Bool.true_bne, Int.reduceBNe, mm, c]
      rw [forL_nx rfl n2, forL_nil, el]
      have e1 : (Vl.plus p m).txt = p.txt ++ [32, 43, 32] ++ decI m := by
        show p.txt ++ pTail m = _
        rw [show pTail m = [32, 43, 32] ++ decI m from if_neg q, List.append_assoc]
      have e2 : (pTail m).length = 3 + (decI m).length := by
        rw [show pTail m = [32, 43, 32] ++ decI m from if_neg q, List.length_append]; rfl
      rw [e1, e2, show k + ([32, 43, 32] : List Nat).length + (decI m).length = k + (3 + (decI m).length) by simp; omega]
end PV

namespace PV
open PySem PD
theorem ptail_split (v : Vl) (r : List Nat) : ∃ p rest, v.txt ++ r = p.txt ++ rest ∧ ((v = .pl p ∧ rest = r) ∨ ∃ m, v = .plus p m ∧ rest = pTail m ++ r) := by
  cases v with
  | pl p => exact ⟨p, r, rfl, .inl ⟨rfl, rfl⟩⟩
  | plus p m => exact ⟨p, pTail m ++ r, by show (p.txt ++ pTail m) ++ r = _; rw [List.append_assoc], .inr ⟨m, rfl, rfl⟩⟩
theorem ptail_32 (m : Int) (r : List Nat) : ∃ q, pTail m ++ r = 32 :: q := by
  unfold pTail
  by_cases q : m < 0
  · rw [if_pos q]; exact ⟨_, rfl⟩
  · rw [if_neg q]; exact ⟨_, rfl⟩
theorem vlen {v : Vl} (h : v.ok = true) : v.txt.length ≤ 80 := by
  cases v with
  | pl p => have := ptxt_len (p := p) h; show p.txt.length ≤ 80; omega
  | plus p m =>
    have h' := Bool.and_eq_true_iff.mp (show (p.ok && isCon m) = true from h)
    have := ptxt_len h'.1
    have := tail_len h'.2
    show (p.txt ++ pTail m).length ≤ 80
    rw [List.length_append]; omega
theorem pok {v : Vl} {p : Pl} (h : v.ok = true) (e : v = .pl p ∨ ∃ m, v = .plus p m) : p.ok = true := by
  rcases e with rfl | ⟨m, rfl⟩
  · exact h
  · exact (Bool.and_eq_true_iff.mp (show (p.ok && isCon m) = true from h)).1
theorem value_ok {t : EH} {s : List Nat} {k : Nat} (hs : s.length ≤ 8000) (hk : k ≤ s.length) {v : Vl} (hv : v.ok = true) {r : List Nat} (hr : Stop r) (hn : NotPM r) (e : s.drop k = v.txt ++ r) :
    F_ConditionReader_value [.ref t.length] (t ++ [rd s k]) = some (.ok v.d, t ++ [rd s (k + v.txt.length)]) := by
  have ek : s.length - r.length = k + v.txt.length := by
    have := congrArg List.length e
    rw [List.length_drop, List.length_append] at this
    omega
  have rv := callPK_ok (F := F_read_value) (h := t ++ [rd s (k + v.txt.length)]) (readV hv) rfl
  obtain ⟨p, rest, e1, e2⟩ := ptail_split v r
  have hp : p.ok = true := pok hv (by rcases e2 with ⟨h, _⟩ | ⟨m, h, _⟩; exact .inl h; exact .inr ⟨m, h⟩)
  have hst : Stop rest := by
    rcases e2 with ⟨_, rfl⟩ | ⟨m, _, rfl⟩
    · exact hr
    · obtain ⟨q, hq⟩ := ptail_32 m r
      rw [hq]; exact stop32
  have ed := e.trans e1
  have k1 := drop_le hk ed
  have d1 := drop_app ed
  have sg := signs_ok (t := t) hs hk ed (ptxt_stops hp) hst
  have lp := ptxt_len hp
  obtain ⟨x, lp⟩ := value_loop (t := t) hs k1 (z := p.txt) (by omega) v hv r hr hn (by
    rcases e2 with ⟨h, rfl⟩ | ⟨m, h, rfl⟩
    · exact .inl ⟨p, h, rfl, d1⟩
    · exact .inr ⟨p, m, h, rfl, d1⟩)
  rw [ek] at lp
  have mm := fun ε : Ev => fun a : M (List D) => mei_rd (t := t) (s := s) (k := k) (ε := ε) (m := "signs") (F := F_ConditionReader_signs) (a := a) (by kernel_rfl)
  show endI (t ++ [rd s k]).length (m_ConditionReader_value [some (.ref t.length), none, none] (t ++ [rd s k])) = _
  simp only [m_ConditionReader_value, ↓seq_ap, ↓var_ap, ↓c_ap, ↓bin_ap, ↓tst_ap, ↓not_ap, ↓and_ap, ↓or_ap, ↓if_ap, ↓andv_ap, ↓orv_ap, ↓notv_ap, ↓nil_ap, ↓cons_ap, ↓tup_ap, ↓lst_ap, ↓call_ap, ↓callP_ap, ↓callI_ap, ↓perm_ap, ↓nop_ap, ↓smp_ap, ↓sl_ap, ↓chain_ap, ↓isi_ap, ↓lc_ap, ↓lstC_ap, ↓mts_ap, ↓yes_ap, ↓il_ap, ↓it_ap, ↓is_ap, ↓ir1_ap, ↓iz_ap, ↓snil_ap, ↓ret_ap, ↓sif_ap, ↓sexpr_ap, ↓bk_ap, ↓ct_ap, ↓asg_ap, ↓for_ap, ↓par_ap, ↓gname_ap, ↓gnil_ap, ↓gcons_ap, ↓gtup_ap, ↓gsub_ap, bR_ok, bR_ex, rt_some, sq_nx, sq_rt, sq_bk, sq_ct, sq_ex, bS_ok, bS_ex, binK1_ap, binK2_ap, tstK_b, notK_ap, andK_t, andK_f, orK_t, orK_f, ifK_t, ifK_f, andV_t, andV_f, orV_t, orV_f, notV_c, consK1_ap, consK2_ap, tupK_ok, lstK_ok, callK_ap, permK_ap, smP_int, slK1_ap, slK2_ap, slK3_ap, sl_lst, sl_scr, sl_tup, chK1_ap, chK2_ap, chK3_t, chK3_f, chK4_ap, isiK_int, isiK_str, isiK_bl, isiK_non, isiK_tup, isiK_lst, mtsK_str, mtsK2_ap, ilK_lst, ilK_scr, itK_tup, isK_str, izK_l, izK_t, retK_ap, sifK_t, sifK_f, sexprK_ap, asgK_ap, bG_ok, forK_ap, parK_ok, gK_ok, subK1_ok, subK2_ok, add_int, sub_int, mod_int, lt_int, le_int, gt_int, ge_int, eq_int, eq_str, eq_bl, eq_is, eq_si, eq_bs, eq_sb, eq_nn, ne_int, ne_str, ne_bl, isn_ap, isN_int, isN_str, isN_bl, isN_tup, isN_lst, isN_non, ix_lst, ix_tup, ix_scr, len_lst, len_tup, int_int, list_lst, list_tup, tuple_lst, tuple_tup, asB_bl, getD0, getDS, set0, setS, at0, atS, map_some', bind_some', List.length_cons, List.length_nil, List.any_cons, List.any_nil, ↓fld_ap, ↓mei_ap, ↓faug_ap, ↓c1_ap, ↓ir2_ap, ↓sfld_ap, fldK_ap, meiK2_ap, c1K_ap, sfldK_ap, sfldK2_ap, decide_true, decide_false, and_self, Nat.reduceLeDiff, Nat.reduceAdd, if_true, Int.reduceLT, Int.reduceNeg, Int.reducePow, Int.reduceToNat, Int.reduceLE, Nat.reduceLT, Int.reduceAdd, Int.reduceSub, Bool.not_true, Bool.not_false, Int.reduceEq, bne_self_eq_false, Bool.false_bne, Bool.true_bne, Int.reduceBNe, mm, sg, lp, rv]
  exact endI_ok (by simp) v.noRef
/-! ### a comparison -/
theorem cw_nopm (o : Cw) (q : List Nat) : NotPM ([32] ++ (o.s ++ q)) := by
  cases o <;> refine ⟨?_, ?_⟩ <;> simp [Cw.s, List.cons_prefix_cons]
theorem cmp_ok {t : EH} {s : List Nat} {k : Nat} (hs : s.length ≤ 8000) (hk : k ≤ s.length) {o : Cw} {a b : Vl} (ha : a.ok = true) (hb : b.ok = true) {r : List Nat} (hr : Stop r) (hn : NotPM r) (e : s.drop k = (Cd.cmp o a b).txt ++ r) :
    F_ConditionReader_comparison [.ref t.length] (t ++ [rd s k]) = some (.ok (Cd.cmp o a b).d, t ++ [rd s (k + (Cd.cmp o a b).txt.length)]) := by
  have e0 : s.drop k = a.txt ++ ([32] ++ (o.s ++ ([32] ++ (b.txt ++ r)))) := by rw [e]; simp [Cd.txt]
  have va := value_ok (t := t) hs hk ha (r := [32] ++ (o.s ++ ([32] ++ (b.txt ++ r)))) (by exact stop32) (cw_nopm o _) e0
  have k1 := drop_le hk e0
  have d1 := drop_app e0
  have mm := fun ε : Ev => fun x : M (List D) => mei_rd (t := t) (s := s) (k := k) (ε := ε) (m := "value") (F := F_ConditionReader_value) (a := x) (by kernel_rfl)
  have hlen : (Cd.cmp o a b).txt.length = a.txt.length + (2 + o.s.length) + b.txt.length := by
    simp [Cd.txt]; omega
  have go : ∀ {h : EH} (w g : D) (x y : Option D), mgTup 2 (mgCons (mgName 2) (mgCons (mgName 3) mgNil)) (.tup [w, g]) [some (.ref t.length), some a.d, x, y] h = some ([some (.ref t.length), some a.d, some w, some g], h) := fun _ _ _ _ => rfl
  have js : ∀ {w g : List Nat} {h : EH}, g.length ≤ 100 → jsL [(mC (.str [32])), (mFmt (mVar 3)), (mC (.str [32]))] [] [some (.ref t.length), some a.d, some (.str w), some (.str g)] h = some (.ok (.str ([32] ++ (g ++ [32]))), h) := by
    intro w g h l
    rw [js_step (z := [32]) (h1 := h) rfl (by simp), js_step (z := g) (h1 := h) (fmt_s (h1 := h) rfl (by omega)) (by simp; omega), js_step (z := [32]) (h1 := h) rfl (by simp; omega), js_ok]
    simp
  have mc := fun ε : Ev => fun x : M (List D) => mei_rd (t := t) (s := s) (k := k + a.txt.length) (ε := ε) (m := "comes") (F := F_ConditionReader_comes) (a := x) (by kernel_rfl)
  have no : ∀ {w g : List Nat}, g.length ≤ 100 → ¬ ([32] ++ (g ++ [32])) <+: ([32] ++ (o.s ++ ([32] ++ (b.txt ++ r)))) → mb_ConditionReader_comparison_0 [some (.ref t.length), some a.d, some (.str w), some (.str g)] (t ++ [rd s (k + a.txt.length)]) = some (.nx [some (.ref t.length), some a.d, some (.str w), some (.str g)], t ++ [rd s (k + a.txt.length)]) := by
    intro w g l n
    have c := comes_f (t := t) (w := [32] ++ (g ++ [32])) k1 (by simp; omega) d1 n
    simp only [mb_ConditionReader_comparison_0, ↓seq_ap, ↓var_ap, ↓c_ap, ↓bin_ap, ↓tst_ap, ↓not_ap, ↓and_ap, ↓or_ap, ↓if_ap, ↓andv_ap, ↓orv_ap, ↓notv_ap, ↓nil_ap, ↓cons_ap, ↓tup_ap, ↓lst_ap, ↓call_ap, ↓callP_ap, ↓callI_ap, ↓perm_ap, ↓nop_ap, ↓smp_ap, ↓sl_ap, ↓chain_ap, ↓isi_ap, ↓lc_ap, ↓lstC_ap, ↓mts_ap, ↓yes_ap, ↓il_ap, ↓it_ap, ↓is_ap, ↓ir1_ap, ↓iz_ap, ↓snil_ap, ↓ret_ap, ↓sif_ap, ↓sexpr_ap, ↓bk_ap, ↓ct_ap, ↓asg_ap, ↓for_ap, ↓par_ap, ↓gname_ap, ↓gnil_ap, ↓gcons_ap, ↓gtup_ap, ↓gsub_ap, bR_ok, bR_ex, rt_some, sq_nx, sq_rt, sq_bk, sq_ct, sq_ex, bS_ok, bS_ex, binK1_ap, binK2_ap, tstK_b, notK_ap, andK_t, andK_f, orK_t, orK_f, ifK_t, ifK_f, andV_t, andV_f, orV_t, orV_f, notV_c, consK1_ap, consK2_ap, tupK_ok, lstK_ok, callK_ap, permK_ap, smP_int, slK1_ap, slK2_ap, slK3_ap, sl_lst, sl_scr, sl_tup, chK1_ap, chK2_ap, chK3_t, chK3_f, chK4_ap, isiK_int, isiK_str, isiK_bl, isiK_non, isiK_tup, isiK_lst, mtsK_str, mtsK2_ap, ilK_lst, ilK_scr, itK_tup, isK_str, izK_l, izK_t, retK_ap, sifK_t, sifK_f, sexprK_ap, asgK_ap, bG_ok, forK_ap, parK_ok, gK_ok, subK1_ok, subK2_ok, add_int, sub_int, mod_int, lt_int, le_int, gt_int, ge_int, eq_int, eq_str, eq_bl, eq_is, eq_si, eq_bs, eq_sb, eq_nn, ne_int, ne_str, ne_bl, isn_ap, isN_int, isN_str, isN_bl, isN_tup, isN_lst, isN_non, ix_lst, ix_tup, ix_scr, len_lst, len_tup, int_int, list_lst, list_tup, tuple_lst, tuple_tup, asB_bl, getD0, getDS, set0, setS, at0, atS, map_some', bind_some', List.length_cons, List.length_nil, List.any_cons, List.any_nil, ↓fld_ap, ↓mei_ap, ↓faug_ap, ↓c1_ap, ↓ir2_ap, ↓sfld_ap, fldK_ap, meiK2_ap, c1K_ap, sfldK_ap, sfldK2_ap, decide_true, decide_false, and_self, Nat.reduceLeDiff, Nat.reduceAdd, if_true, Int.reduceLT, Int.reduceNeg, Int.reducePow, Int.reduceToNat, Int.reduceLE, Nat.reduceLT, Int.reduceAdd, Int.reduceSub, Bool.not_true, Bool.not_false, Int.reduceEq, bne_self_eq_false, Bool.false_bne, Bool.true_bne, Int.reduceBNe, mc, js l, c]
  have yes : mb_ConditionReader_comparison_0 [some (.ref t.length), some a.d, some (.str o.w), some (.str o.s)] (t ++ [rd s (k + a.txt.length)]) = some (.rt (Cd.cmp o a b).d, t ++ [rd s (k + (Cd.cmp o a b).txt.length)]) := by
    have lo := cw_len o
    have e1 : s.drop (k + a.txt.length) = ([32] ++ (o.s ++ [32])) ++ (b.txt ++ r) := by rw [d1]; simp
    have c := comes_t (t := t) (w := [32] ++ (o.s ++ [32])) k1 (by simp; omega) e1
    have k2 := drop_le k1 e1
    have d2 := drop_app e1
    have vb := value_ok (t := t) hs k2 hb hr hn d2
    have mv := fun ε : Ev => fun x : M (List D) => mei_rd (t := t) (s := s) (k := k + a.txt.length + ([32] ++ (o.s ++ [32])).length) (ε := ε) (m := "value") (F := F_ConditionReader_value) (a := x) (by kernel_rfl)
    have el : k + a.txt.length + ([32] ++ (o.s ++ [32])).length + b.txt.length = k + (Cd.cmp o a b).txt.length := by
      rw [hlen]; simp; omega
    rw [el] at vb
    simp only [mb_ConditionReader_comparison_0, ↓seq_ap, ↓var_ap, ↓c_ap, ↓bin_ap, ↓tst_ap, ↓not_ap, ↓and_ap, ↓or_ap, ↓if_ap, ↓andv_ap, ↓orv_ap, ↓notv_ap, ↓nil_ap, ↓cons_ap, ↓tup_ap, ↓lst_ap, ↓call_ap, ↓callP_ap, ↓callI_ap, ↓perm_ap, ↓nop_ap, ↓smp_ap, ↓sl_ap, ↓chain_ap, ↓isi_ap, ↓lc_ap, ↓lstC_ap, ↓mts_ap, ↓yes_ap, ↓il_ap, ↓it_ap, ↓is_ap, ↓ir1_ap, ↓iz_ap, ↓snil_ap, ↓ret_ap, ↓sif_ap, ↓sexpr_ap, ↓bk_ap, ↓ct_ap, ↓asg_ap, ↓for_ap, ↓par_ap, ↓gname_ap, ↓gnil_ap, ↓gcons_ap, ↓gtup_ap, ↓gsub_ap, bR_ok, bR_ex, rt_some, sq_nx, sq_rt, sq_bk, sq_ct, sq_ex, bS_ok, bS_ex, binK1_ap, binK2_ap, tstK_b, notK_ap, andK_t, andK_f, orK_t, orK_f, ifK_t, ifK_f, andV_t, andV_f, orV_t, orV_f, notV_c, consK1_ap, consK2_ap, tupK_ok, lstK_ok, callK_ap, permK_ap, smP_int, slK1_ap, slK2_ap, slK3_ap, sl_lst, sl_scr, sl_tup, chK1_ap, chK2_ap, chK3_t, chK3_f, chK4_ap, isiK_int, isiK_str, isiK_bl, isiK_non, isiK_tup, isiK_lst, mtsK_str, mtsK2_ap, ilK_lst, ilK_scr, itK_tup, isK_str, izK_l, izK_t, retK_ap, sifK_t, sifK_f, sexprK_ap, asgK_ap, bG_ok, forK_ap, parK_ok, gK_ok, subK1_ok, subK2_ok, add_int, sub_int, mod_int, lt_int, le_int, gt_int, ge_int, eq_int, eq_str, eq_bl, eq_is, eq_si, eq_bs, eq_sb, eq_nn, ne_int, ne_str, ne_bl, isn_ap, isN_int, isN_str, isN_bl, isN_tup, isN_lst, isN_non, ix_lst, ix_tup, ix_scr, len_lst, len_tup, int_int, list_lst, list_tup, tuple_lst, tuple_tup, asB_bl, getD0, getDS, set0, setS, at0, atS, map_some', bind_some', List.length_cons, List.length_nil, List.any_cons, List.any_nil, ↓fld_ap, ↓mei_ap, ↓faug_ap, ↓c1_ap, ↓ir2_ap, ↓sfld_ap, fldK_ap, meiK2_ap, c1K_ap, sfldK_ap, sfldK2_ap, decide_true, decide_false, and_self, Nat.reduceLeDiff, Nat.reduceAdd, if_true, Int.reduceLT, Int.reduceNeg, Int.reducePow, Int.reduceToNat, Int.reduceLE, Nat.reduceLT, Int.reduceAdd, Int.reduceSub, Bool.not_true, Bool.not_false, Int.reduceEq, bne_self_eq_false, Bool.false_bne, Bool.true_bne, Int.reduceBNe, mc, js (show o.s.length ≤ 100 by omega), c, mv, vb, Cd.d]
  have loop : forL (mgTup 2 (mgCons (mgName 2) (mgCons (mgName 3) mgNil))) mb_ConditionReader_comparison_0 [.tup [.str Cw.am.w, .str Cw.am.s], .tup [.str Cw.be.w, .str Cw.be.s], .tup [.str Cw.sa.w, .str Cw.sa.s]] [some (.ref t.length), some a.d, none, none] (t ++ [rd s (k + a.txt.length)]) = some (.rt (Cd.cmp o a b).d, t ++ [rd s (k + (Cd.cmp o a b).txt.length)]) := by
    cases o with
    | am => exact forL_rt (go _ _ _ _) yes
    | be =>
      rw [forL_nx (go _ _ _ _) (no (w := Cw.am.w) (g := Cw.am.s) (by decide) (by simp [Cw.s, List.cons_prefix_cons]))]
      exact forL_rt (go _ _ _ _) yes
    | sa =>
      rw [forL_nx (go _ _ _ _) (no (w := Cw.am.w) (g := Cw.am.s) (by decide) (by simp [Cw.s, List.cons_prefix_cons])), forL_nx (go _ _ _ _) (no (w := Cw.be.w) (g := Cw.be.s) (by decide) (by simp [Cw.s, List.cons_prefix_cons]))]
      exact forL_rt (go _ _ _ _) yes
  have items : dItems kv_SIGNS = .lst [.tup [.str Cw.am.w, .str Cw.am.s], .tup [.str Cw.be.w, .str Cw.be.s], .tup [.str Cw.sa.w, .str Cw.sa.s]] := rfl
  show endI (t ++ [rd s k]).length (m_ConditionReader_comparison [some (.ref t.length), none, none, none] (t ++ [rd s k])) = _
  simp only [m_ConditionReader_comparison, items, ↓seq_ap, ↓var_ap, ↓c_ap, ↓bin_ap, ↓tst_ap, ↓not_ap, ↓and_ap, ↓or_ap, ↓if_ap, ↓andv_ap, ↓orv_ap, ↓notv_ap, ↓nil_ap, ↓cons_ap, ↓tup_ap, ↓lst_ap, ↓call_ap, ↓callP_ap, ↓callI_ap, ↓perm_ap, ↓nop_ap, ↓smp_ap, ↓sl_ap, ↓chain_ap, ↓isi_ap, ↓lc_ap, ↓lstC_ap, ↓mts_ap, ↓yes_ap, ↓il_ap, ↓it_ap, ↓is_ap, ↓ir1_ap, ↓iz_ap, ↓snil_ap, ↓ret_ap, ↓sif_ap, ↓sexpr_ap, ↓bk_ap, ↓ct_ap, ↓asg_ap, ↓for_ap, ↓par_ap, ↓gname_ap, ↓gnil_ap, ↓gcons_ap, ↓gtup_ap, ↓gsub_ap, bR_ok, bR_ex, rt_some, sq_nx, sq_rt, sq_bk, sq_ct, sq_ex, bS_ok, bS_ex, binK1_ap, binK2_ap, tstK_b, notK_ap, andK_t, andK_f, orK_t, orK_f, ifK_t, ifK_f, andV_t, andV_f, orV_t, orV_f, notV_c, consK1_ap, consK2_ap, tupK_ok, lstK_ok, callK_ap, permK_ap, smP_int, slK1_ap, slK2_ap, slK3_ap, sl_lst, sl_scr, sl_tup, chK1_ap, chK2_ap, chK3_t, chK3_f, chK4_ap, isiK_int, isiK_str, isiK_bl, isiK_non, isiK_tup, isiK_lst, mtsK_str, mtsK2_ap, ilK_lst, ilK_scr, itK_tup, isK_str, izK_l, izK_t, retK_ap, sifK_t, sifK_f, sexprK_ap, asgK_ap, bG_ok, forK_ap, parK_ok, gK_ok, subK1_ok, subK2_ok, add_int, sub_int, mod_int, lt_int, le_int, gt_int, ge_int, eq_int, eq_str, eq_bl, eq_is, eq_si, eq_bs, eq_sb, eq_nn, ne_int, ne_str, ne_bl, isn_ap, isN_int, isN_str, isN_bl, isN_tup, isN_lst, isN_non, ix_lst, ix_tup, ix_scr, len_lst, len_tup, int_int, list_lst, list_tup, tuple_lst, tuple_tup, asB_bl, getD0, getDS, set0, setS, at0, atS, map_some', bind_some', List.length_cons, List.length_nil, List.any_cons, List.any_nil, ↓fld_ap, ↓mei_ap, ↓faug_ap, ↓c1_ap, ↓ir2_ap, ↓sfld_ap, fldK_ap, meiK2_ap, c1K_ap, sfldK_ap, sfldK2_ap, decide_true, decide_false, and_self, Nat.reduceLeDiff, Nat.reduceAdd, if_true, Int.reduceLT, Int.reduceNeg, Int.reducePow, Int.reduceToNat, Int.reduceLE, Nat.reduceLT, Int.reduceAdd, Int.reduceSub, Bool.not_true, Bool.not_false, Int.reduceEq, bne_self_eq_false, Bool.false_bne, Bool.true_bne, Int.reduceBNe, mm, va, loop]
  exact endI_ok (by simp) (Cd.cmp o a b).noRef
/-! ### a condition -/
theorem jw_nopm (j : Bool) (q : List Nat) : NotPM ([32] ++ (jw j ++ q)) := by
  cases j <;> refine ⟨?_, ?_⟩ <;> simp [jw, List.cons_prefix_cons]
theorem nopm41 (q : List Nat) : NotPM ([41] ++ q) := by
  refine ⟨?_, ?_⟩ <;> simp [List.cons_prefix_cons]
theorem stop41 (q : List Nat) : Stop ([41] ++ q) := fun c r' e => by
  injection e with e1 _
  rw [← e1]; decide
theorem cond_ok {t : EH} {s : List Nat} (hs : s.length ≤ 8000) : ∀ (c : Cd) (f k : Nat) (dp : Int) (r : List Nat), c.ok = true → k ≤ s.length → Stop r → NotPM r → s.drop k = c.txt ++ r → dp + c.dep ≤ 7 → c.dep ≤ f →
    F_ConditionReader_condition_ f [.ref t.length, .int dp] (t ++ [rd s k]) = some (.ok c.d, t ++ [rd s (k + c.txt.length)]) := by
  have start : ∀ (f k : Nat) (dp : Int), dp ≤ 6 → k ≤ s.length → ∀ (c : Cd), c.ok = true → ∀ r, Stop r → NotPM r → s.drop k = c.txt ++ r → (c = .tru ∨ (∃ z, c = .fnd z) ∨ ∃ o a b, c = .cmp o a b) →
      F_ConditionReader_condition_ (f + 1) [.ref t.length, .int dp] (t ++ [rd s k]) = some (.ok c.d, t ++ [rd s (k + c.txt.length)]) := by
    intro f k dp hdp hk c hc r hr hn e hcase
    have n6 : ¬ (6 : Int) < dp := by omega
    have mc := fun ε : Ev => fun x : M (List D) => mei_rd (t := t) (s := s) (k := k) (ε := ε) (m := "comes") (F := F_ConditionReader_comes) (a := x) (by kernel_rfl)
    have ms := fun ε : Ev => fun x : M (List D) => mei_rd (t := t) (s := s) (k := k) (ε := ε) (m := "signs") (F := F_ConditionReader_signs) (a := x) (by kernel_rfl)
    have mp := fun ε : Ev => fun x : M (List D) => mei_rd (t := t) (s := s) (k := k) (ε := ε) (m := "comparison") (F := F_ConditionReader_comparison) (a := x) (by kernel_rfl)
    show endI (t ++ [rd s k]).length (m_ConditionReader_condition (F_ConditionReader_condition_ f) [some (.ref t.length), some (.int dp), none] (t ++ [rd s k])) = _
    rcases hcase with rfl | ⟨z, rfl⟩ | ⟨o, a, b, rfl⟩
    · have c1 := comes_f (t := t) (w := [40]) hk (by decide) e (by simp [Cd.txt, List.cons_prefix_cons])
      have c2 := comes_f (t := t) (w := [110, 111, 116, 32]) hk (by decide) e (by simp [Cd.txt, List.cons_prefix_cons])
      have c3 := comes_f (t := t) (w := [102, 111, 117, 110, 100, 32]) hk (by decide) e (by simp [Cd.txt, List.cons_prefix_cons])
      have sg := signs_ok (t := t) hs hk e (by decide) hr
      simp only [Cd.txt] at sg
      simp only [m_ConditionReader_condition, ↓seq_ap, ↓var_ap, ↓c_ap, ↓bin_ap, ↓tst_ap, ↓not_ap, ↓and_ap, ↓or_ap, ↓if_ap, ↓andv_ap, ↓orv_ap, ↓notv_ap, ↓nil_ap, ↓cons_ap, ↓tup_ap, ↓lst_ap, ↓call_ap, ↓callP_ap, ↓callI_ap, ↓perm_ap, ↓nop_ap, ↓smp_ap, ↓sl_ap, ↓chain_ap, ↓isi_ap, ↓lc_ap, ↓lstC_ap, ↓mts_ap, ↓yes_ap, ↓il_ap, ↓it_ap, ↓is_ap, ↓ir1_ap, ↓iz_ap, ↓snil_ap, ↓ret_ap, ↓sif_ap, ↓sexpr_ap, ↓bk_ap, ↓ct_ap, ↓asg_ap, ↓for_ap, ↓par_ap, ↓gname_ap, ↓gnil_ap, ↓gcons_ap, ↓gtup_ap, ↓gsub_ap, bR_ok, bR_ex, rt_some, sq_nx, sq_rt, sq_bk, sq_ct, sq_ex, bS_ok, bS_ex, binK1_ap, binK2_ap, tstK_b, notK_ap, andK_t, andK_f, orK_t, orK_f, ifK_t, ifK_f, andV_t, andV_f, orV_t, orV_f, notV_c, consK1_ap, consK2_ap, tupK_ok, lstK_ok, callK_ap, permK_ap, smP_int, slK1_ap, slK2_ap, slK3_ap, sl_lst, sl_scr, sl_tup, chK1_ap, chK2_ap, chK3_t, chK3_f, chK4_ap, isiK_int, isiK_str, isiK_bl, isiK_non, isiK_tup, isiK_lst, mtsK_str, mtsK2_ap, ilK_lst, ilK_scr, itK_tup, isK_str, izK_l, izK_t, retK_ap, sifK_t, sifK_f, sexprK_ap, asgK_ap, bG_ok, forK_ap, parK_ok, gK_ok, subK1_ok, subK2_ok, add_int, sub_int, mod_int, lt_int, le_int, gt_int, ge_int, eq_int, eq_str, eq_bl, eq_is, eq_si, eq_bs, eq_sb, eq_nn, ne_int, ne_str, ne_bl, isn_ap, isN_int, isN_str, isN_bl, isN_tup, isN_lst, isN_non, ix_lst, ix_tup, ix_scr, len_lst, len_tup, int_int, list_lst, list_tup, tuple_lst, tuple_tup, asB_bl, getD0, getDS, set0, setS, at0, atS, map_some', bind_some', List.length_cons, List.length_nil, List.any_cons, List.any_nil, ↓fld_ap, ↓mei_ap, ↓faug_ap, ↓c1_ap, ↓ir2_ap, ↓sfld_ap, fldK_ap, meiK2_ap, c1K_ap, sfldK_ap, sfldK2_ap, decide_true, decide_false, and_self, Nat.reduceLeDiff, Nat.reduceAdd, if_true, Int.reduceLT, Int.reduceNeg, Int.reducePow, Int.reduceToNat, Int.reduceLE, Nat.reduceLT, Int.reduceAdd, Int.reduceSub, Bool.not_true, Bool.not_false, Int.reduceEq, bne_self_eq_false, Bool.false_bne, Bool.true_bne, Int.reduceBNe, g_MOST_DEPTH, n6, mc, ms, c1, c2, c3, f_spot, sg, Cd.d]
      exact endI_ok (by simp) rfl
    · have e1 : s.drop k = [102, 111, 117, 110, 100, 32] ++ (z ++ r) := by rw [e]; simp [Cd.txt]
      have c1 := comes_f (t := t) (w := [40]) hk (by decide) e (by simp [Cd.txt, List.cons_prefix_cons])
      have c2 := comes_f (t := t) (w := [110, 111, 116, 32]) hk (by decide) e (by simp [Cd.txt, List.cons_prefix_cons])
      have c3 := comes_t (t := t) (w := [102, 111, 117, 110, 100, 32]) hk (by decide) e1
      have k1 := drop_le hk e1
      have sg := signs_ok (t := t) hs k1 (drop_app e1) (nm_stops (show isNm z = true from hc)) hr
      have ms1 := fun ε : Ev => fun x : M (List D) => mei_rd (t := t) (s := s) (k := k + ([102, 111, 117, 110, 100, 32] : List Nat).length) (ε := ε) (m := "signs") (F := F_ConditionReader_signs) (a := x) (by kernel_rfl)
      have el : k + ([102, 111, 117, 110, 100, 32] : List Nat).length + z.length = k + (Cd.fnd z).txt.length := by simp [Cd.txt]; omega
      rw [el] at sg
      simp only [List.length_cons, List.length_nil, Nat.zero_add, Nat.reduceAdd] at c3 sg ms1
      simp only [m_ConditionReader_condition, ↓seq_ap, ↓var_ap, ↓c_ap, ↓bin_ap, ↓tst_ap, ↓not_ap, ↓and_ap, ↓or_ap, ↓if_ap, ↓andv_ap, ↓orv_ap, ↓notv_ap, ↓nil_ap, ↓cons_ap, ↓tup_ap, ↓lst_ap, ↓call_ap, ↓callP_ap, ↓callI_ap, ↓perm_ap, ↓nop_ap, ↓smp_ap, ↓sl_ap, ↓chain_ap, ↓isi_ap, ↓lc_ap, ↓lstC_ap, ↓mts_ap, ↓yes_ap, ↓il_ap, ↓it_ap, ↓is_ap, ↓ir1_ap, ↓iz_ap, ↓snil_ap, ↓ret_ap, ↓sif_ap, ↓sexpr_ap, ↓bk_ap, ↓ct_ap, ↓asg_ap, ↓for_ap, ↓par_ap, ↓gname_ap, ↓gnil_ap, ↓gcons_ap, ↓gtup_ap, ↓gsub_ap, bR_ok, bR_ex, rt_some, sq_nx, sq_rt, sq_bk, sq_ct, sq_ex, bS_ok, bS_ex, binK1_ap, binK2_ap, tstK_b, notK_ap, andK_t, andK_f, orK_t, orK_f, ifK_t, ifK_f, andV_t, andV_f, orV_t, orV_f, notV_c, consK1_ap, consK2_ap, tupK_ok, lstK_ok, callK_ap, permK_ap, smP_int, slK1_ap, slK2_ap, slK3_ap, sl_lst, sl_scr, sl_tup, chK1_ap, chK2_ap, chK3_t, chK3_f, chK4_ap, isiK_int, isiK_str, isiK_bl, isiK_non, isiK_tup, isiK_lst, mtsK_str, mtsK2_ap, ilK_lst, ilK_scr, itK_tup, isK_str, izK_l, izK_t, retK_ap, sifK_t, sifK_f, sexprK_ap, asgK_ap, bG_ok, forK_ap, parK_ok, gK_ok, subK1_ok, subK2_ok, add_int, sub_int, mod_int, lt_int, le_int, gt_int, ge_int, eq_int, eq_str, eq_bl, eq_is, eq_si, eq_bs, eq_sb, eq_nn, ne_int, ne_str, ne_bl, isn_ap, isN_int, isN_str, isN_bl, isN_tup, isN_lst, isN_non, ix_lst, ix_tup, ix_scr, len_lst, len_tup, int_int, list_lst, list_tup, tuple_lst, tuple_tup, asB_bl, getD0, getDS, set0, setS, at0, atS, map_some', bind_some', List.length_cons, List.length_nil, List.any_cons, List.any_nil, ↓fld_ap, ↓mei_ap, ↓faug_ap, ↓c1_ap, ↓ir2_ap, ↓sfld_ap, fldK_ap, meiK2_ap, c1K_ap, sfldK_ap, sfldK2_ap, decide_true, decide_false, and_self, Nat.reduceLeDiff, Nat.reduceAdd, if_true, Int.reduceLT, Int.reduceNeg, Int.reducePow, Int.reduceToNat, Int.reduceLE, Nat.reduceLT, Int.reduceAdd, Int.reduceSub, Bool.not_true, Bool.not_false, Int.reduceEq, bne_self_eq_false, Bool.false_bne, Bool.true_bne, Int.reduceBNe, g_MOST_DEPTH, n6, mc, ms1, c1, c2, c3, sg, Cd.d]
      exact endI_ok (by simp) rfl
    · have h' := Bool.and_eq_true_iff.mp (show (a.ok && b.ok) = true from hc)
      obtain ⟨p, rest, e1, e2⟩ := ptail_split a ([32] ++ (o.s ++ ([32] ++ (b.txt ++ r))))
      have hp : p.ok = true := pok h'.1 (by rcases e2 with ⟨h, _⟩ | ⟨m, h, _⟩; exact .inl h; exact .inr ⟨m, h⟩)
      have h32 : ∃ q, rest = 32 :: q := by
        rcases e2 with ⟨_, rfl⟩ | ⟨m, _, rfl⟩
        · exact ⟨_, rfl⟩
        · exact ptail_32 m _
      obtain ⟨q, rfl⟩ := h32
      have ed : s.drop k = p.txt ++ 32 :: q := by
        rw [e, ← e1]; simp [Cd.txt]
      have nsp : 32 ∉ p.txt := ptxt_free hp (.inl rfl)
      have c1 := comes_f (t := t) (w := [40]) hk (by decide) ed (ptxt_40 hp _)
      have c2 := comes_f (t := t) (w := [110, 111, 116, 32]) hk (by decide) ed fun hw => ptxt_resv hp (w := [110, 111, 116]) (by decide) (word_pre (w := [110, 111, 116]) nsp (by decide) hw).symm
      have c3 := comes_f (t := t) (w := [102, 111, 117, 110, 100, 32]) hk (by decide) ed fun hw => ptxt_resv hp (w := [102, 111, 117, 110, 100]) (by decide) (word_pre (w := [102, 111, 117, 110, 100]) nsp (by decide) hw).symm
      have sg := signs_ok (t := t) hs hk ed (ptxt_stops hp) stop32
      have nt := ptxt_resv hp (w := [116, 114, 117, 101]) (by decide)
      have cm := cmp_ok (t := t) hs hk (o := o) h'.1 h'.2 hr hn e
      simp only [m_ConditionReader_condition, ↓seq_ap, ↓var_ap, ↓c_ap, ↓bin_ap, ↓tst_ap, ↓not_ap, ↓and_ap, ↓or_ap, ↓if_ap, ↓andv_ap, ↓orv_ap, ↓notv_ap, ↓nil_ap, ↓cons_ap, ↓tup_ap, ↓lst_ap, ↓call_ap, ↓callP_ap, ↓callI_ap, ↓perm_ap, ↓nop_ap, ↓smp_ap, ↓sl_ap, ↓chain_ap, ↓isi_ap, ↓lc_ap, ↓lstC_ap, ↓mts_ap, ↓yes_ap, ↓il_ap, ↓it_ap, ↓is_ap, ↓ir1_ap, ↓iz_ap, ↓snil_ap, ↓ret_ap, ↓sif_ap, ↓sexpr_ap, ↓bk_ap, ↓ct_ap, ↓asg_ap, ↓for_ap, ↓par_ap, ↓gname_ap, ↓gnil_ap, ↓gcons_ap, ↓gtup_ap, ↓gsub_ap, bR_ok, bR_ex, rt_some, sq_nx, sq_rt, sq_bk, sq_ct, sq_ex, bS_ok, bS_ex, binK1_ap, binK2_ap, tstK_b, notK_ap, andK_t, andK_f, orK_t, orK_f, ifK_t, ifK_f, andV_t, andV_f, orV_t, orV_f, notV_c, consK1_ap, consK2_ap, tupK_ok, lstK_ok, callK_ap, permK_ap, smP_int, slK1_ap, slK2_ap, slK3_ap, sl_lst, sl_scr, sl_tup, chK1_ap, chK2_ap, chK3_t, chK3_f, chK4_ap, isiK_int, isiK_str, isiK_bl, isiK_non, isiK_tup, isiK_lst, mtsK_str, mtsK2_ap, ilK_lst, ilK_scr, itK_tup, isK_str, izK_l, izK_t, retK_ap, sifK_t, sifK_f, sexprK_ap, asgK_ap, bG_ok, forK_ap, parK_ok, gK_ok, subK1_ok, subK2_ok, add_int, sub_int, mod_int, lt_int, le_int, gt_int, ge_int, eq_int, eq_str, eq_bl, eq_is, eq_si, eq_bs, eq_sb, eq_nn, ne_int, ne_str, ne_bl, isn_ap, isN_int, isN_str, isN_bl, isN_tup, isN_lst, isN_non, ix_lst, ix_tup, ix_scr, len_lst, len_tup, int_int, list_lst, list_tup, tuple_lst, tuple_tup, asB_bl, getD0, getDS, set0, setS, at0, atS, map_some', bind_some', List.length_cons, List.length_nil, List.any_cons, List.any_nil, ↓fld_ap, ↓mei_ap, ↓faug_ap, ↓c1_ap, ↓ir2_ap, ↓sfld_ap, fldK_ap, meiK2_ap, c1K_ap, sfldK_ap, sfldK2_ap, decide_true, decide_false, and_self, Nat.reduceLeDiff, Nat.reduceAdd, if_true, Int.reduceLT, Int.reduceNeg, Int.reducePow, Int.reduceToNat, Int.reduceLE, Nat.reduceLT, Int.reduceAdd, Int.reduceSub, Bool.not_true, Bool.not_false, Int.reduceEq, bne_self_eq_false, Bool.false_bne, Bool.true_bne, Int.reduceBNe, g_MOST_DEPTH, n6, mc, ms, mp, c1, c2, c3, f_spot, sg, nt, p_spot, cm]
      exact endI_ok (by simp) (Cd.cmp o a b).noRef
  intro c
  induction c with
  | cmp o a b =>
    intro f k dp r hc hk hr hn e hd hf
    obtain ⟨f, rfl⟩ : ∃ m, f = m + 1 := ⟨f - 1, by have : 1 ≤ f := hf; omega⟩
    exact start f k dp (by have : dp + (1 : Nat) ≤ 7 := hd; omega) hk _ hc r hr hn e (.inr (.inr ⟨o, a, b, rfl⟩))
  | tru =>
    intro f k dp r hc hk hr hn e hd hf
    obtain ⟨f, rfl⟩ : ∃ m, f = m + 1 := ⟨f - 1, by have : 1 ≤ f := hf; omega⟩
    exact start f k dp (by have : dp + (1 : Nat) ≤ 7 := hd; omega) hk _ hc r hr hn e (.inl rfl)
  | fnd z =>
    intro f k dp r hc hk hr hn e hd hf
    obtain ⟨f, rfl⟩ : ∃ m, f = m + 1 := ⟨f - 1, by have : 1 ≤ f := hf; omega⟩
    exact start f k dp (by have : dp + (1 : Nat) ≤ 7 := hd; omega) hk _ hc r hr hn e (.inr (.inl ⟨z, rfl⟩))
  | nt c ih =>
    intro f k dp r hc hk hr hn e hd hf
    have hd' : dp + ((c.dep + 1 : Nat) : Int) ≤ 7 := hd
    have hf' : c.dep + 1 ≤ f := hf
    have hp := c.dep_pos
    obtain ⟨f, rfl⟩ : ∃ m, f = m + 1 := ⟨f - 1, by omega⟩
    have n6 : ¬ (6 : Int) < dp := by omega
    have e1 : s.drop k = [110, 111, 116, 32] ++ (c.txt ++ r) := by rw [e]; simp [Cd.txt]
    have k1 := drop_le hk e1
    have c1 := comes_f (t := t) (w := [40]) hk (by decide) e (by simp [Cd.txt, List.cons_prefix_cons])
    have c2 := comes_t (t := t) (w := [110, 111, 116, 32]) hk (by decide) e1
    have i := ih f _ (dp + 1) r hc k1 hr hn (drop_app e1) (by omega) (by omega)
    have mc := fun ε : Ev => fun x : M (List D) => mei_rd (t := t) (s := s) (k := k) (ε := ε) (m := "comes") (F := F_ConditionReader_comes) (a := x) (by kernel_rfl)
    have mi := fun ε : Ev => fun x : M (List D) => mei_rd (t := t) (s := s) (k := k + ([110, 111, 116, 32] : List Nat).length) (ε := ε) (m := "condition") (F := F_ConditionReader_condition_ f) (a := x) (by kernel_rfl)
    have el : k + ([110, 111, 116, 32] : List Nat).length + c.txt.length = k + (Cd.nt c).txt.length := by simp [Cd.txt]; omega
    rw [el] at i
    simp only [List.length_cons, List.length_nil, Nat.zero_add, Nat.reduceAdd] at c2 i mi
    show endI (t ++ [rd s k]).length (m_ConditionReader_condition (F_ConditionReader_condition_ f) [some (.ref t.length), some (.int dp), none] (t ++ [rd s k])) = _
    simp only [m_ConditionReader_condition, ↓seq_ap, ↓var_ap, ↓c_ap, ↓bin_ap, ↓tst_ap, ↓not_ap, ↓and_ap, ↓or_ap, ↓if_ap, ↓andv_ap, ↓orv_ap, ↓notv_ap, ↓nil_ap, ↓cons_ap, ↓tup_ap, ↓lst_ap, ↓call_ap, ↓callP_ap, ↓callI_ap, ↓perm_ap, ↓nop_ap, ↓smp_ap, ↓sl_ap, ↓chain_ap, ↓isi_ap, ↓lc_ap, ↓lstC_ap, ↓mts_ap, ↓yes_ap, ↓il_ap, ↓it_ap, ↓is_ap, ↓ir1_ap, ↓iz_ap, ↓snil_ap, ↓ret_ap, ↓sif_ap, ↓sexpr_ap, ↓bk_ap, ↓ct_ap, ↓asg_ap, ↓for_ap, ↓par_ap, ↓gname_ap, ↓gnil_ap, ↓gcons_ap, ↓gtup_ap, ↓gsub_ap, bR_ok, bR_ex, rt_some, sq_nx, sq_rt, sq_bk, sq_ct, sq_ex, bS_ok, bS_ex, binK1_ap, binK2_ap, tstK_b, notK_ap, andK_t, andK_f, orK_t, orK_f, ifK_t, ifK_f, andV_t, andV_f, orV_t, orV_f, notV_c, consK1_ap, consK2_ap, tupK_ok, lstK_ok, callK_ap, permK_ap, smP_int, slK1_ap, slK2_ap, slK3_ap, sl_lst, sl_scr, sl_tup, chK1_ap, chK2_ap, chK3_t, chK3_f, chK4_ap, isiK_int, isiK_str, isiK_bl, isiK_non, isiK_tup, isiK_lst, mtsK_str, mtsK2_ap, ilK_lst, ilK_scr, itK_tup, isK_str, izK_l, izK_t, retK_ap, sifK_t, sifK_f, sexprK_ap, asgK_ap, bG_ok, forK_ap, parK_ok, gK_ok, subK1_ok, subK2_ok, add_int, sub_int, mod_int, lt_int, le_int, gt_int, ge_int, eq_int, eq_str, eq_bl, eq_is, eq_si, eq_bs, eq_sb, eq_nn, ne_int, ne_str, ne_bl, isn_ap, isN_int, isN_str, isN_bl, isN_tup, isN_lst, isN_non, ix_lst, ix_tup, ix_scr, len_lst, len_tup, int_int, list_lst, list_tup, tuple_lst, tuple_tup, asB_bl, getD0, getDS, set0, setS, at0, atS, map_some', bind_some', List.length_cons, List.length_nil, List.any_cons, List.any_nil, ↓fld_ap, ↓mei_ap, ↓faug_ap, ↓c1_ap, ↓ir2_ap, ↓sfld_ap, fldK_ap, meiK2_ap, c1K_ap, sfldK_ap, sfldK2_ap, decide_true, decide_false, and_self, Nat.reduceLeDiff, Nat.reduceAdd, if_true, Int.reduceLT, Int.reduceNeg, Int.reducePow, Int.reduceToNat, Int.reduceLE, Nat.reduceLT, Int.reduceAdd, Int.reduceSub, Bool.not_true, Bool.not_false, Int.reduceEq, bne_self_eq_false, Bool.false_bne, Bool.true_bne, Int.reduceBNe, g_MOST_DEPTH, n6, mc, mi, c1, c2, i]
    exact endI_ok (by simp) (Cd.nt c).noRef
  | bin j c d ihc ihd =>
    intro f k dp r hc hk hr hn e hd hf
    have hd' : dp + ((max c.dep d.dep + 1 : Nat) : Int) ≤ 7 := hd
    have hf' : max c.dep d.dep + 1 ≤ f := hf
    have h' := Bool.and_eq_true_iff.mp (show (c.ok && d.ok) = true from hc)
    have hp := c.dep_pos
    obtain ⟨f, rfl⟩ : ∃ m, f = m + 1 := ⟨f - 1, by omega⟩
    have n6 : ¬ (6 : Int) < dp := by omega
    have lj := jw_len j
    have e1 : s.drop k = [40] ++ (c.txt ++ ([32] ++ (jw j ++ ([32] ++ (d.txt ++ ([41] ++ r)))))) := by rw [e]; simp [Cd.txt]
    have k1 := drop_le hk e1
    have d1 := drop_app e1
    have c1 := comes_t (t := t) (w := [40]) hk (by decide) e1
    have ic := ihc f _ (dp + 1) _ h'.1 k1 (by exact stop32) (jw_nopm j _) d1 (by omega) (by omega)
    have k2 := drop_le k1 d1
    have d2 := drop_app d1
    have e2 : s.drop (k + ([40] : List Nat).length + c.txt.length) = ([32] ++ (jw j ++ [32])) ++ (d.txt ++ ([41] ++ r)) := by rw [d2]; simp
    have k3 := drop_le k2 e2
    have d3 := drop_app e2
    have idd := ihd f _ (dp + 1) _ h'.2 k3 (stop41 r) (nopm41 r) d3 (by omega) (by omega)
    have k4 := drop_le k3 d3
    have d4 := drop_app d3
    have c4 := comes_t (t := t) (w := [41]) k4 (by decide) d4
    have el : k + ([40] : List Nat).length + c.txt.length + ([32] ++ (jw j ++ [32])).length + d.txt.length + ([41] : List Nat).length = k + (Cd.bin j c d).txt.length := by simp [Cd.txt]; omega
    rw [el] at c4
    generalize ek3 : k + ([40] : List Nat).length + c.txt.length + ([32] ++ (jw j ++ [32])).length = q3 at *
    generalize ek2 : k + ([40] : List Nat).length + c.txt.length = q2 at *
    generalize ek4 : q3 + d.txt.length = q4 at *
    have go : ∀ {h : EH} (w : D) (x y : Option D), mgName 3 w [some (.ref t.length), some (.int dp), some c.d, x, y] h = some ([some (.ref t.length), some (.int dp), some c.d, some w, y], h) := fun _ _ _ => rfl
    have js : ∀ {g : List Nat} {h : EH}, g.length ≤ 100 → jsL [(mC (.str [32])), (mFmt (mVar 3)), (mC (.str [32]))] [] [some (.ref t.length), some (.int dp), some c.d, some (.str g), none] h = some (.ok (.str ([32] ++ (g ++ [32]))), h) := by
      intro g h l
      rw [js_step (z := [32]) (h1 := h) rfl (by simp), js_step (z := g) (h1 := h) (fmt_s (h1 := h) rfl (by omega)) (by simp; omega), js_step (z := [32]) (h1 := h) rfl (by simp; omega), js_ok]
      simp
    have m2 := fun ε : Ev => fun x : M (List D) => mei_rd (t := t) (s := s) (k := q2) (ε := ε) (m := "comes") (F := F_ConditionReader_comes) (a := x) (by kernel_rfl)
    have m3 := fun ε : Ev => fun x : M (List D) => mei_rd (t := t) (s := s) (k := q3) (ε := ε) (m := "condition") (F := F_ConditionReader_condition_ f) (a := x) (by kernel_rfl)
    have m4 := fun ε : Ev => fun x : M (List D) => mei_rd (t := t) (s := s) (k := q4) (ε := ε) (m := "comes") (F := F_ConditionReader_comes) (a := x) (by kernel_rfl)
    have cj := comes_t (t := t) (w := [32] ++ (jw j ++ [32])) k2 (by simp; omega) e2
    rw [ek3] at cj
    have yes : mb_ConditionReader_joined_0 (F_ConditionReader_condition_ f) [some (.ref t.length), some (.int dp), some c.d, some (.str (jw j)), none] (t ++ [rd s q2]) = some (.rt (Cd.bin j c d).d, t ++ [rd s (k + (Cd.bin j c d).txt.length)]) := by
      simp only [mb_ConditionReader_joined_0, ↓seq_ap, ↓var_ap, ↓c_ap, ↓bin_ap, ↓tst_ap, ↓not_ap, ↓and_ap, ↓or_ap, ↓if_ap, ↓andv_ap, ↓orv_ap, ↓notv_ap, ↓nil_ap, ↓cons_ap, ↓tup_ap, ↓lst_ap, ↓call_ap, ↓callP_ap, ↓callI_ap, ↓perm_ap, ↓nop_ap, ↓smp_ap, ↓sl_ap, ↓chain_ap, ↓isi_ap, ↓lc_ap, ↓lstC_ap, ↓mts_ap, ↓yes_ap, ↓il_ap, ↓it_ap, ↓is_ap, ↓ir1_ap, ↓iz_ap, ↓snil_ap, ↓ret_ap, ↓sif_ap, ↓sexpr_ap, ↓bk_ap, ↓ct_ap, ↓asg_ap, ↓for_ap, ↓par_ap, ↓gname_ap, ↓gnil_ap, ↓gcons_ap, ↓gtup_ap, ↓gsub_ap, bR_ok, bR_ex, rt_some, sq_nx, sq_rt, sq_bk, sq_ct, sq_ex, bS_ok, bS_ex, binK1_ap, binK2_ap, tstK_b, notK_ap, andK_t, andK_f, orK_t, orK_f, ifK_t, ifK_f, andV_t, andV_f, orV_t, orV_f, notV_c, consK1_ap, consK2_ap, tupK_ok, lstK_ok, callK_ap, permK_ap, smP_int, slK1_ap, slK2_ap, slK3_ap, sl_lst, sl_scr, sl_tup, chK1_ap, chK2_ap, chK3_t, chK3_f, chK4_ap, isiK_int, isiK_str, isiK_bl, isiK_non, isiK_tup, isiK_lst, mtsK_str, mtsK2_ap, ilK_lst, ilK_scr, itK_tup, isK_str, izK_l, izK_t, retK_ap, sifK_t, sifK_f, sexprK_ap, asgK_ap, bG_ok, forK_ap, parK_ok, gK_ok, subK1_ok, subK2_ok, add_int, sub_int, mod_int, lt_int, le_int, gt_int, ge_int, eq_int, eq_str, eq_bl, eq_is, eq_si, eq_bs, eq_sb, eq_nn, ne_int, ne_str, ne_bl, isn_ap, isN_int, isN_str, isN_bl, isN_tup, isN_lst, isN_non, ix_lst, ix_tup, ix_scr, len_lst, len_tup, int_int, list_lst, list_tup, tuple_lst, tuple_tup, asB_bl, getD0, getDS, set0, setS, at0, atS, map_some', bind_some', List.length_cons, List.length_nil, List.any_cons, List.any_nil, ↓fld_ap, ↓mei_ap, ↓faug_ap, ↓c1_ap, ↓ir2_ap, ↓sfld_ap, fldK_ap, meiK2_ap, c1K_ap, sfldK_ap, sfldK2_ap, decide_true, decide_false, and_self, Nat.reduceLeDiff, Nat.reduceAdd, if_true, Int.reduceLT, Int.reduceNeg, Int.reducePow, Int.reduceToNat, Int.reduceLE, Nat.reduceLT, Int.reduceAdd, Int.reduceSub, Bool.not_true, Bool.not_false, Int.reduceEq, bne_self_eq_false, Bool.false_bne, Bool.true_bne, Int.reduceBNe, m2, m3, m4, js (show (jw j).length ≤ 100 by omega), cj, idd, c4, Cd.d]
    have loop : forL (mgName 3) (mb_ConditionReader_joined_0 (F_ConditionReader_condition_ f)) [.str (jw true), .str (jw false)] [some (.ref t.length), some (.int dp), some c.d, none, none] (t ++ [rd s q2]) = some (.rt (Cd.bin j c d).d, t ++ [rd s (k + (Cd.bin j c d).txt.length)]) := by
      cases j with
      | true => exact forL_rt (go _ _ _) yes
      | false =>
        have cn := comes_f (t := t) (w := [32] ++ (jw true ++ [32])) k2 (by decide) e2 (by simp [jw, List.cons_prefix_cons])
        have no : mb_ConditionReader_joined_0 (F_ConditionReader_condition_ f) [some (.ref t.length), some (.int dp), some c.d, some (.str (jw true)), none] (t ++ [rd s q2]) = some (.nx [some (.ref t.length), some (.int dp), some c.d, some (.str (jw true)), none], t ++ [rd s q2]) := by
          simp only [mb_ConditionReader_joined_0, ↓seq_ap, ↓var_ap, ↓c_ap, ↓bin_ap, ↓tst_ap, ↓not_ap, ↓and_ap, ↓or_ap, ↓if_ap, ↓andv_ap, ↓orv_ap, ↓notv_ap, ↓nil_ap, ↓cons_ap, ↓tup_ap, ↓lst_ap, ↓call_ap, ↓callP_ap, ↓callI_ap, ↓perm_ap, ↓nop_ap, ↓smp_ap, ↓sl_ap, ↓chain_ap, ↓isi_ap, ↓lc_ap, ↓lstC_ap, ↓mts_ap, ↓yes_ap, ↓il_ap, ↓it_ap, ↓is_ap, ↓ir1_ap, ↓iz_ap, ↓snil_ap, ↓ret_ap, ↓sif_ap, ↓sexpr_ap, ↓bk_ap, ↓ct_ap, ↓asg_ap, ↓for_ap, ↓par_ap, ↓gname_ap, ↓gnil_ap, ↓gcons_ap, ↓gtup_ap, ↓gsub_ap, bR_ok, bR_ex, rt_some, sq_nx, sq_rt, sq_bk, sq_ct, sq_ex, bS_ok, bS_ex, binK1_ap, binK2_ap, tstK_b, notK_ap, andK_t, andK_f, orK_t, orK_f, ifK_t, ifK_f, andV_t, andV_f, orV_t, orV_f, notV_c, consK1_ap, consK2_ap, tupK_ok, lstK_ok, callK_ap, permK_ap, smP_int, slK1_ap, slK2_ap, slK3_ap, sl_lst, sl_scr, sl_tup, chK1_ap, chK2_ap, chK3_t, chK3_f, chK4_ap, isiK_int, isiK_str, isiK_bl, isiK_non, isiK_tup, isiK_lst, mtsK_str, mtsK2_ap, ilK_lst, ilK_scr, itK_tup, isK_str, izK_l, izK_t, retK_ap, sifK_t, sifK_f, sexprK_ap, asgK_ap, bG_ok, forK_ap, parK_ok, gK_ok, subK1_ok, subK2_ok, add_int, sub_int, mod_int, lt_int, le_int, gt_int, ge_int, eq_int, eq_str, eq_bl, eq_is, eq_si, eq_bs, eq_sb, eq_nn, ne_int, ne_str, ne_bl, isn_ap, isN_int, isN_str, isN_bl, isN_tup, isN_lst, isN_non, ix_lst, ix_tup, ix_scr, len_lst, len_tup, int_int, list_lst, list_tup, tuple_lst, tuple_tup, asB_bl, getD0, getDS, set0, setS, at0, atS, map_some', bind_some', List.length_cons, List.length_nil, List.any_cons, List.any_nil, ↓fld_ap, ↓mei_ap, ↓faug_ap, ↓c1_ap, ↓ir2_ap, ↓sfld_ap, fldK_ap, meiK2_ap, c1K_ap, sfldK_ap, sfldK2_ap, decide_true, decide_false, and_self, Nat.reduceLeDiff, Nat.reduceAdd, if_true, Int.reduceLT, Int.reduceNeg, Int.reducePow, Int.reduceToNat, Int.reduceLE, Nat.reduceLT, Int.reduceAdd, Int.reduceSub, Bool.not_true, Bool.not_false, Int.reduceEq, bne_self_eq_false, Bool.false_bne, Bool.true_bne, Int.reduceBNe, m2, js (show (jw true).length ≤ 100 by decide), cn]
        rw [forL_nx (go _ _ _) no]
        exact forL_rt (go _ _ _) yes
    have joined : FX_ConditionReader_joined (F_ConditionReader_condition_ f) [.ref t.length, .int dp] (t ++ [rd s (k + ([40] : List Nat).length)]) = some (.ok (Cd.bin j c d).d, t ++ [rd s (k + (Cd.bin j c d).txt.length)]) := by
      have mi := fun ε : Ev => fun x : M (List D) => mei_rd (t := t) (s := s) (k := k + ([40] : List Nat).length) (ε := ε) (m := "condition") (F := F_ConditionReader_condition_ f) (a := x) (by kernel_rfl)
      have gj : g_JOINTS = .tup [.str (jw true), .str (jw false)] := rfl
      show endI (t ++ [rd s (k + ([40] : List Nat).length)]).length (m_ConditionReader_joined (F_ConditionReader_condition_ f) [some (.ref t.length), some (.int dp), none, none, none] (t ++ [rd s (k + ([40] : List Nat).length)])) = _
      simp only [List.length_cons, List.length_nil, Nat.zero_add] at ic mi ⊢
      simp only [m_ConditionReader_joined, gj, ↓seq_ap, ↓var_ap, ↓c_ap, ↓bin_ap, ↓tst_ap, ↓not_ap, ↓and_ap, ↓or_ap, ↓if_ap, ↓andv_ap, ↓orv_ap, ↓notv_ap, ↓nil_ap, ↓cons_ap, ↓tup_ap, ↓lst_ap, ↓call_ap, ↓callP_ap, ↓callI_ap, ↓perm_ap, ↓nop_ap, ↓smp_ap, ↓sl_ap, ↓chain_ap, ↓isi_ap, ↓lc_ap, ↓lstC_ap, ↓mts_ap, ↓yes_ap, ↓il_ap, ↓it_ap, ↓is_ap, ↓ir1_ap, ↓iz_ap, ↓snil_ap, ↓ret_ap, ↓sif_ap, ↓sexpr_ap, ↓bk_ap, ↓ct_ap, ↓asg_ap, ↓for_ap, ↓par_ap, ↓gname_ap, ↓gnil_ap, ↓gcons_ap, ↓gtup_ap, ↓gsub_ap, bR_ok, bR_ex, rt_some, sq_nx, sq_rt, sq_bk, sq_ct, sq_ex, bS_ok, bS_ex, binK1_ap, binK2_ap, tstK_b, notK_ap, andK_t, andK_f, orK_t, orK_f, ifK_t, ifK_f, andV_t, andV_f, orV_t, orV_f, notV_c, consK1_ap, consK2_ap, tupK_ok, lstK_ok, callK_ap, permK_ap, smP_int, slK1_ap, slK2_ap, slK3_ap, sl_lst, sl_scr, sl_tup, chK1_ap, chK2_ap, chK3_t, chK3_f, chK4_ap, isiK_int, isiK_str, isiK_bl, isiK_non, isiK_tup, isiK_lst, mtsK_str, mtsK2_ap, ilK_lst, ilK_scr, itK_tup, isK_str, izK_l, izK_t, retK_ap, sifK_t, sifK_f, sexprK_ap, asgK_ap, bG_ok, forK_ap, parK_ok, gK_ok, subK1_ok, subK2_ok, add_int, sub_int, mod_int, lt_int, le_int, gt_int, ge_int, eq_int, eq_str, eq_bl, eq_is, eq_si, eq_bs, eq_sb, eq_nn, ne_int, ne_str, ne_bl, isn_ap, isN_int, isN_str, isN_bl, isN_tup, isN_lst, isN_non, ix_lst, ix_tup, ix_scr, len_lst, len_tup, int_int, list_lst, list_tup, tuple_lst, tuple_tup, asB_bl, getD0, getDS, set0, setS, at0, atS, map_some', bind_some', List.length_cons, List.length_nil, List.any_cons, List.any_nil, ↓fld_ap, ↓mei_ap, ↓faug_ap, ↓c1_ap, ↓ir2_ap, ↓sfld_ap, fldK_ap, meiK2_ap, c1K_ap, sfldK_ap, sfldK2_ap, decide_true, decide_false, and_self, Nat.reduceLeDiff, Nat.reduceAdd, if_true, Int.reduceLT, Int.reduceNeg, Int.reducePow, Int.reduceToNat, Int.reduceLE, Nat.reduceLT, Int.reduceAdd, Int.reduceSub, Bool.not_true, Bool.not_false, Int.reduceEq, bne_self_eq_false, Bool.false_bne, Bool.true_bne, Int.reduceBNe, mi, ic, loop]
      exact endI_ok (by simp) (Cd.bin j c d).noRef
    have mc := fun ε : Ev => fun x : M (List D) => mei_rd (t := t) (s := s) (k := k) (ε := ε) (m := "comes") (F := F_ConditionReader_comes) (a := x) (by kernel_rfl)
    have mj := fun ε : Ev => fun x : M (List D) => mei_rd (t := t) (s := s) (k := k + ([40] : List Nat).length) (ε := ε) (m := "joined") (F := FX_ConditionReader_joined (F_ConditionReader_condition_ f)) (a := x) (by kernel_rfl)
    simp only [List.length_cons, List.length_nil, Nat.zero_add] at c1 joined mj
    show endI (t ++ [rd s k]).length (m_ConditionReader_condition (F_ConditionReader_condition_ f) [some (.ref t.length), some (.int dp), none] (t ++ [rd s k])) = _
    simp only [m_ConditionReader_condition, ↓seq_ap, ↓var_ap, ↓c_ap, ↓bin_ap, ↓tst_ap, ↓not_ap, ↓and_ap, ↓or_ap, ↓if_ap, ↓andv_ap, ↓orv_ap, ↓notv_ap, ↓nil_ap, ↓cons_ap, ↓tup_ap, ↓lst_ap, ↓call_ap, ↓callP_ap, ↓callI_ap, ↓perm_ap, ↓nop_ap, ↓smp_ap, ↓sl_ap, ↓chain_ap, ↓isi_ap, ↓lc_ap, ↓lstC_ap, ↓mts_ap, ↓yes_ap, ↓il_ap, ↓it_ap, ↓is_ap, ↓ir1_ap, ↓iz_ap, ↓snil_ap, ↓ret_ap, ↓sif_ap, ↓sexpr_ap, ↓bk_ap, ↓ct_ap, ↓asg_ap, ↓for_ap, ↓par_ap, ↓gname_ap, ↓gnil_ap, ↓gcons_ap, ↓gtup_ap, ↓gsub_ap, bR_ok, bR_ex, rt_some, sq_nx, sq_rt, sq_bk, sq_ct, sq_ex, bS_ok, bS_ex, binK1_ap, binK2_ap, tstK_b, notK_ap, andK_t, andK_f, orK_t, orK_f, ifK_t, ifK_f, andV_t, andV_f, orV_t, orV_f, notV_c, consK1_ap, consK2_ap, tupK_ok, lstK_ok, callK_ap, permK_ap, smP_int, slK1_ap, slK2_ap, slK3_ap, sl_lst, sl_scr, sl_tup, chK1_ap, chK2_ap, chK3_t, chK3_f, chK4_ap, isiK_int, isiK_str, isiK_bl, isiK_non, isiK_tup, isiK_lst, mtsK_str, mtsK2_ap, ilK_lst, ilK_scr, itK_tup, isK_str, izK_l, izK_t, retK_ap, sifK_t, sifK_f, sexprK_ap, asgK_ap, bG_ok, forK_ap, parK_ok, gK_ok, subK1_ok, subK2_ok, add_int, sub_int, mod_int, lt_int, le_int, gt_int, ge_int, eq_int, eq_str, eq_bl, eq_is, eq_si, eq_bs, eq_sb, eq_nn, ne_int, ne_str, ne_bl, isn_ap, isN_int, isN_str, isN_bl, isN_tup, isN_lst, isN_non, ix_lst, ix_tup, ix_scr, len_lst, len_tup, int_int, list_lst, list_tup, tuple_lst, tuple_tup, asB_bl, getD0, getDS, set0, setS, at0, atS, map_some', bind_some', List.length_cons, List.length_nil, List.any_cons, List.any_nil, ↓fld_ap, ↓mei_ap, ↓faug_ap, ↓c1_ap, ↓ir2_ap, ↓sfld_ap, fldK_ap, meiK2_ap, c1K_ap, sfldK_ap, sfldK2_ap, decide_true, decide_false, and_self, Nat.reduceLeDiff, Nat.reduceAdd, if_true, Int.reduceLT, Int.reduceNeg, Int.reducePow, Int.reduceToNat, Int.reduceLE, Nat.reduceLT, Int.reduceAdd, Int.reduceSub, Bool.not_true, Bool.not_false, Int.reduceEq, bne_self_eq_false, Bool.false_bne, Bool.true_bne, Int.reduceBNe, g_MOST_DEPTH, n6, mc, mj, c1, joined]
    exact endI_ok (by simp) (Cd.bin j c d).noRef
end PV

namespace PD
open PySem PySem.Spec PyProof.Rows L2
/-! ## == of data -/
/-- data without a bool, of a depth, with right signs -/
def okE : Nat → D → Bool
  | 0, _ => false
  | _ + 1, .non => true
  | _ + 1, .int _ => true
  | _ + 1, .str z => z.all fun c => decide (c < 1114112)
  | t + 1, .tup ds => ds.all (okE t)
  | t + 1, .lst ds => ds.all (okE t)
  | _ + 1, _ => false
theorem okE_up : ∀ {t : Nat} {d : D}, okE t d = true → okE (t + 1) d = true
  | 0, _, e => by cases e
  | t + 1, .non, _ => rfl
  | t + 1, .int _, _ => rfl
  | t + 1, .str _, e => e
  | t + 1, .tup ds, e => List.all_eq_true.mpr fun d hd => okE_up (List.all_eq_true.mp (show ds.all (okE t) = true from e) d hd)
  | t + 1, .lst ds, e => List.all_eq_true.mpr fun d hd => okE_up (List.all_eq_true.mp (show ds.all (okE t) = true from e) d hd)
  | t + 1, .bl _, e => by cases e
  | t + 1, .scr _, e => by cases e
  | t + 1, .dic _ _, e => by cases e
  | t + 1, .obj _ _, e => by cases e
  | t + 1, .ref _, e => by cases e
theorem okE_le {t u : Nat} {d : D} (h : okE t d = true) (l : t ≤ u) : okE u d = true := by
  induction l with
  | refl => exact h
  | step _ ih => exact okE_up ih
/-- of the same data -/
def pdOf : Nat → D → PyData
  | 0, _ => .none
  | _ + 1, .non => .none
  | _ + 1, .int i => .int i
  | _ + 1, .str z => .str (toS z)
  | t + 1, .tup ds => .tuple (ds.map (pdOf t))
  | t + 1, .lst ds => .list (ds.map (pdOf t))
  | _ + 1, _ => .none
theorem toPD_all {f : D → PyData} : ∀ {ds : List D}, (∀ d ∈ ds, toPD d = some (f d)) → toPD.go ds = some (ds.map f)
  | [], _ => rfl
  | d :: ds, h => by
    rw [toPD.go, h d List.mem_cons_self, toPD_all fun x hx => h x (List.mem_cons_of_mem _ hx)]
    rfl
theorem lay_all {ds : List PyData} (h : ∀ d ∈ ds, d.canLay0 = true) : PyData.canLayAll0 ds = true := by
  induction ds with
  | nil => rfl
  | cons d ds ih =>
    rw [PyData.canLayAll0, h d List.mem_cons_self, ih fun x hx => h x (List.mem_cons_of_mem _ hx)]; rfl
theorem dep_all {n : Nat} {ds : List PyData} (h : ∀ d ∈ ds, d.depth ≤ n) : PyData.depthAll ds ≤ n := by
  induction ds with
  | nil => exact Nat.zero_le _
  | cons d ds ih =>
    rw [PyData.depthAll]
    exact Nat.max_le.mpr ⟨h d List.mem_cons_self, ih fun x hx => h x (List.mem_cons_of_mem _ hx)⟩
theorem pd_ok : ∀ {t : Nat} {d : D}, okE t d = true → toPD d = some (pdOf t d) ∧ (pdOf t d).canLay0 = true ∧ (pdOf t d).depth ≤ t
  | 0, _, e => by cases e
  | t + 1, .non, _ => ⟨rfl, rfl, Nat.zero_le _⟩
  | t + 1, .int _, _ => ⟨rfl, rfl, Nat.zero_le _⟩
  | t + 1, .str z, e => by
    refine ⟨rfl, ?_, Nat.zero_le _⟩
    show (z.toArray).all (fun c => decide (c < 0x110000)) = true
    have e' : z.all (fun c => decide (c < 1114112)) = true := e
    simpa using e'
  | t + 1, .tup ds, e => by
    have h := List.all_eq_true.mp (show ds.all (okE t) = true from e)
    refine ⟨?_, ?_, ?_⟩
    · rw [toPD, toPD_all fun d hd => (pd_ok (h d hd)).1]; rfl
    · show PyData.canLayAll0 (ds.map (pdOf t)) = true
      refine lay_all fun d hd => ?_
      obtain ⟨x, hx, rfl⟩ := List.mem_map.mp hd
      exact (pd_ok (h x hx)).2.1
    · show PyData.depthAll (ds.map (pdOf t)) + 1 ≤ t + 1
      refine Nat.succ_le_succ (dep_all fun d hd => ?_)
      obtain ⟨x, hx, rfl⟩ := List.mem_map.mp hd
      exact (pd_ok (h x hx)).2.2
  | t + 1, .lst ds, e => by
    have h := List.all_eq_true.mp (show ds.all (okE t) = true from e)
    refine ⟨?_, ?_, ?_⟩
    · rw [toPD, toPD_all fun d hd => (pd_ok (h d hd)).1]; rfl
    · show PyData.canLayAll0 (ds.map (pdOf t)) = true
      refine lay_all fun d hd => ?_
      obtain ⟨x, hx, rfl⟩ := List.mem_map.mp hd
      exact (pd_ok (h x hx)).2.1
    · show PyData.depthAll (ds.map (pdOf t)) + 1 ≤ t + 1
      refine Nat.succ_le_succ (dep_all fun d hd => ?_)
      obtain ⟨x, hx, rfl⟩ := List.mem_map.mp hd
      exact (pd_ok (h x hx)).2.2
  | t + 1, .bl _, e => by cases e
  | t + 1, .scr _, e => by cases e
  | t + 1, .dic _ _, e => by cases e
  | t + 1, .obj _ _, e => by cases e
  | t + 1, .ref _, e => by cases e
theorem eqvAll_iff {f g : D → PyData} : ∀ {xs ys : List D}, (∀ x ∈ xs, ∀ y ∈ ys, PyData.eqv (f x) (g y) = true ↔ x = y) → (PyData.eqvAll (xs.map f) (ys.map g) = true ↔ xs = ys)
  | [], [], _ => ⟨fun _ => rfl, fun _ => rfl⟩
  | [], _ :: _, _ => ⟨fun h => (by cases h), fun h => (by cases h)⟩
  | _ :: _, [], _ => ⟨fun h => (by cases h), fun h => (by cases h)⟩
  | x :: xs, y :: ys, h => by
    rw [List.map_cons, List.map_cons, PyData.eqvAll, Bool.and_eq_true, h x List.mem_cons_self y List.mem_cons_self, eqvAll_iff fun a ha b hb => h a (List.mem_cons_of_mem _ ha) b (List.mem_cons_of_mem _ hb)]
    simp
theorem toS_inj {a b : List Nat} (h : toS a = toS b) : a = b := by
  have : (toS a).cps.toList = (toS b).cps.toList := by rw [h]
  simpa [toS] using this
theorem eqv_iff : ∀ {t u : Nat} {x y : D}, okE t x = true → okE u y = true → (PyData.eqv (pdOf t x) (pdOf u y) = true ↔ x = y)
  | 0, _, _, _, e, _ => by cases e
  | _ + 1, 0, _, _, _, e => by cases e
  | t + 1, u + 1, x, y, ex, ey => by
    cases x with
    | non => cases y <;> first | (cases ey; done) | simp [pdOf, PyData.eqv]
    | int i => cases y <;> first | (cases ey; done) | simp [pdOf, PyData.eqv]
    | str z =>
      cases y <;> first
        | (cases ey; done)
        | (simp only [pdOf, PyData.eqv, beq_iff_eq, D.str.injEq]; exact ⟨toS_inj, fun h => by rw [h]⟩)
        | simp [pdOf, PyData.eqv]
    | tup xs =>
      have hx := List.all_eq_true.mp (show xs.all (okE t) = true from ex)
      cases y with
      | tup ys =>
        have hy := List.all_eq_true.mp (show ys.all (okE u) = true from ey)
        simp only [pdOf, PyData.eqv, D.tup.injEq]
        exact eqvAll_iff fun a ha b hb => eqv_iff (hx a ha) (hy b hb)
      | non => simp [pdOf, PyData.eqv]
      | int _ => simp [pdOf, PyData.eqv]
      | str _ => simp [pdOf, PyData.eqv]
      | lst _ => simp [pdOf, PyData.eqv]
      | _ => cases ey
    | lst xs =>
      have hx := List.all_eq_true.mp (show xs.all (okE t) = true from ex)
      cases y with
      | lst ys =>
        have hy := List.all_eq_true.mp (show ys.all (okE u) = true from ey)
        simp only [pdOf, PyData.eqv, D.lst.injEq]
        exact eqvAll_iff fun a ha b hb => eqv_iff (hx a ha) (hy b hb)
      | non => simp [pdOf, PyData.eqv]
      | int _ => simp [pdOf, PyData.eqv]
      | str _ => simp [pdOf, PyData.eqv]
      | tup _ => simp [pdOf, PyData.eqv]
      | _ => cases ey
    | _ => cases ex
theorem dEqv_iff {t u : Nat} {x y : D} (hx : okE t x = true) (hy : okE u y = true) (ht : t ≤ 64) (hu : u ≤ 64) : ∃ b, dEqv x y = some b ∧ (b = true ↔ x = y) := by
  obtain ⟨a1, a2, a3⟩ := pd_ok hx
  obtain ⟨b1, b2, b3⟩ := pd_ok hy
  refine ⟨PyData.eqv (pdOf t x) (pdOf u y), ?_, eqv_iff hx hy⟩
  unfold dEqv
  rw [a1, b1]
  refine if_pos ⟨?_, ?_⟩
  · exact Bool.and_eq_true_iff.mpr ⟨a2, decide_eq_true (Nat.le_trans a3 ht)⟩
  · exact Bool.and_eq_true_iff.mpr ⟨b2, decide_eq_true (Nat.le_trans b3 hu)⟩
theorem scalD_iff {t u : Nat} {x y : D} (hx : okE t x = true) (hy : okE u y = true) {b : Bool} (e : scalD x y = some b) : b = true ↔ x = y := by
  cases t with
  | zero => cases hx
  | succ t =>
    cases u with
    | zero => cases hy
    | succ u =>
      cases x <;> first
        | (cases hx; done)
        | (cases y <;> first
            | (cases hy; done)
            | (cases e; done)
            | (cases e; simp))
theorem eq_data {h : EH} {t u : Nat} {x y : D} (hx : okE t x = true) (hy : okE u y = true) (ht : t ≤ 64) (hu : u ≤ 64) : ∃ b, dEq h x y = some (.bl b) ∧ dNe h x y = some (.bl (!b)) ∧ (b = true ↔ x = y) := by
  obtain ⟨b, e, i⟩ := dEqv_iff hx hy ht hu
  unfold dEq dNe dEqD
  cases q : scalD x y with
  | some c => exact ⟨c, rfl, rfl, scalD_iff hx hy q⟩
  | none =>
    rw [e]
    refine ⟨b, ?_, ?_, i⟩
    · show some (D.bl (false != b)) = _
      rw [Bool.false_bne]
    · show some (D.bl (true != b)) = _
      rw [Bool.true_bne]
theorem dEq_t {h : EH} {t : Nat} {x : D} (hx : okE t x = true) (ht : t ≤ 64) : dEq h x x = some (.bl true) := by
  obtain ⟨b, e, _, i⟩ := eq_data (h := h) hx hx ht ht
  rw [e, i.mpr rfl]
theorem dEq_f {h : EH} {t u : Nat} {x y : D} (hx : okE t x = true) (hy : okE u y = true) (ht : t ≤ 64) (hu : u ≤ 64) (n : x ≠ y) : dEq h x y = some (.bl false) := by
  obtain ⟨b, e, _, i⟩ := eq_data (h := h) hx hy ht hu
  cases b with
  | true => exact absurd (i.mp rfl) n
  | false => exact e
theorem dNe_f {h : EH} {t : Nat} {x : D} (hx : okE t x = true) (ht : t ≤ 64) : dNe h x x = some (.bl false) := by
  obtain ⟨b, _, e, i⟩ := eq_data (h := h) hx hx ht ht
  rw [e, i.mpr rfl]; rfl
theorem dNe_t {h : EH} {t u : Nat} {x y : D} (hx : okE t x = true) (hy : okE u y = true) (ht : t ≤ 64) (hu : u ≤ 64) (n : x ≠ y) : dNe h x y = some (.bl true) := by
  obtain ⟨b, _, e, i⟩ := eq_data (h := h) hx hy ht hu
  cases b with
  | true => exact absurd (i.mp rfl) n
  | false => exact e
/-! ## a law's turns -/
theorem forL_ct {g : MG} {b : MS} {d : D} {ds : List D} {ε ε1 ε2 : Ev} {h h1 h2 : EH} (e1 : g d ε h = some (ε1, h1)) (e2 : b ε1 h1 = some (.ct ε2, h2)) : forL g b (d :: ds) ε h = forL g b ds ε2 h2 := by
  show (match g d ε h with
    | none => none
    | some (ε1, h1) => match b ε1 h1 with
      | some (.nx ε2, h2) => forL g b ds ε2 h2
      | some (.ct ε2, h2) => forL g b ds ε2 h2
      | some (.bk ε2, h2) => some (.nx ε2, h2)
      | some (.rt d, h2) => some (.rt d, h2)
      | some (.ex e ε2, h2) => some (.ex e ε2, h2)
      | none => none) = _
  rw [e1]
  dsimp only
  rw [e2]
theorem forL_bag {g : MG} {b : MS} {n : Nat} {x : D} (body : ∀ (d : D) (k : Cell) (r : Ev), BagI k → r.length = n → ∃ (ε1 r' : Ev) (k' : Cell), g d (some x :: some (.ref 0) :: r) [k] = some (ε1, [k]) ∧
    (b ε1 [k] = some (.nx (some x :: some (.ref 0) :: r'), [k']) ∨ b ε1 [k] = some (.ct (some x :: some (.ref 0) :: r'), [k'])) ∧ r'.length = n ∧ BagI k') : ∀ (ds : List D) (k : Cell) (r : Ev), BagI k → r.length = n →
    ∃ (r' : Ev) (k' : Cell), forL g b ds (some x :: some (.ref 0) :: r) [k] = some (.nx (some x :: some (.ref 0) :: r'), [k']) ∧ r'.length = n ∧ BagI k'
  | [], k, r, hk, hr => ⟨r, k, rfl, hr, hk⟩
  | d :: ds, k, r, hk, hr => by
    obtain ⟨ε1, r1, k1, e1, e2, l1, hk1⟩ := body d k r hk hr
    obtain ⟨r2, k2, e3, l2, hk2⟩ := forL_bag body ds k1 r1 hk1 l1
    refine ⟨r2, k2, ?_, l2, hk2⟩
    rcases e2 with e2 | e2
    · rw [forL_nx e1 e2, e3]
    · rw [forL_ct e1 e2, e3]
end PD

namespace PD
open PySem
def mkK (C : Str) (dd : List D) (F : IF) (ds : List D) (h1 : EH) : O D := match F (.ref h1.length :: (ds ++ dd)) (h1 ++ [.obj C []]) with
  | some (.ok .non, h2) => some (.ok (.ref h1.length), h2)
  | some (.ex e, h2) => some (.ex e, h2)
  | _ => none
theorem mk_ap (C : Str) (dd : List D) (F : IF) (a : M (List D)) {ε : Ev} {h : EH} : mMk C dd F a ε h = bR (a ε h) (mkK C dd F) := (rfl)
theorem mkK_ok {C : Str} {dd : List D} {F : IF} {ds : List D} {h h2 : EH} (e : F (.ref h.length :: (ds ++ dd)) (h ++ [.obj C []]) = some (.ok .non, h2)) : mkK C dd F ds h = some (.ok (.ref h.length), h2) := by
  unfold mkK; rw [e]
theorem endI_trim {t : EH} {x : Cell} {d : D} (hp : t.all pureC = true) (hd : noRef d = true) : endI t.length (some (.rt d, t ++ [x])) = some (.ok d, t) := by
  have f : frzI t.length (t ++ [x]) d = some d := frzIT hd
  have tr : trim t.length (t ++ [x]) = some t := by
    unfold trim
    rw [if_neg (by simp), List.take_left, if_pos hp]
  unfold endI
  simp only [f, tr]
end PD
namespace PV
open PySem PD
/-! ## a text read as a condition -/
theorem init_ok {t : EH} {z : List Nat} : F_ConditionReader_init [.ref t.length, .str z] (t ++ [.obj "ConditionReader" []]) = some (.ok .non, t ++ [rd z 0]) := by
  have p1 : putO ["ConditionReader"] "source" (t ++ [.obj "ConditionReader" []]) (.ref t.length) (.str z) = some (t ++ [.obj "ConditionReader" [("source", .str z)]]) := by
    unfold putO
    simp only [last_at]
    rw [if_pos ⟨List.mem_singleton.mpr rfl, (by decide : (0 : Nat) < 1000)⟩, last_set]
    kernel_rfl
  have p2 : putO ["ConditionReader"] "spot" (t ++ [.obj "ConditionReader" [("source", .str z)]]) (.ref t.length) (.int 0) = some (t ++ [rd z 0]) := by
    unfold putO
    simp only [last_at]
    rw [if_pos ⟨List.mem_singleton.mpr rfl, (by decide : (1 : Nat) < 1000)⟩, last_set]
    kernel_rfl
  show endI (t ++ [Cell.obj "ConditionReader" []]).length (m_ConditionReader_init [some (.ref t.length), some (.str z)] (t ++ [.obj "ConditionReader" []])) = _
  simp only [m_ConditionReader_init, ↓seq_ap, ↓var_ap, ↓c_ap, ↓bin_ap, ↓tst_ap, ↓not_ap, ↓and_ap, ↓or_ap, ↓if_ap, ↓andv_ap, ↓orv_ap, ↓notv_ap, ↓nil_ap, ↓cons_ap, ↓tup_ap, ↓lst_ap, ↓call_ap, ↓callP_ap, ↓callI_ap, ↓perm_ap, ↓nop_ap, ↓smp_ap, ↓sl_ap, ↓chain_ap, ↓isi_ap, ↓lc_ap, ↓lstC_ap, ↓mts_ap, ↓yes_ap, ↓il_ap, ↓it_ap, ↓is_ap, ↓ir1_ap, ↓iz_ap, ↓snil_ap, ↓ret_ap, ↓sif_ap, ↓sexpr_ap, ↓bk_ap, ↓ct_ap, ↓asg_ap, ↓for_ap, ↓par_ap, ↓gname_ap, ↓gnil_ap, ↓gcons_ap, ↓gtup_ap, ↓gsub_ap, bR_ok, bR_ex, rt_some, sq_nx, sq_rt, sq_bk, sq_ct, sq_ex, bS_ok, bS_ex, binK1_ap, binK2_ap, tstK_b, notK_ap, andK_t, andK_f, orK_t, orK_f, ifK_t, ifK_f, andV_t, andV_f, orV_t, orV_f, notV_c, consK1_ap, consK2_ap, tupK_ok, lstK_ok, callK_ap, permK_ap, smP_int, slK1_ap, slK2_ap, slK3_ap, sl_lst, sl_scr, sl_tup, chK1_ap, chK2_ap, chK3_t, chK3_f, chK4_ap, isiK_int, isiK_str, isiK_bl, isiK_non, isiK_tup, isiK_lst, mtsK_str, mtsK2_ap, ilK_lst, ilK_scr, itK_tup, isK_str, izK_l, izK_t, retK_ap, sifK_t, sifK_f, sexprK_ap, asgK_ap, bG_ok, forK_ap, parK_ok, gK_ok, subK1_ok, subK2_ok, add_int, sub_int, mod_int, lt_int, le_int, gt_int, ge_int, eq_int, eq_str, eq_bl, eq_is, eq_si, eq_bs, eq_sb, eq_nn, ne_int, ne_str, ne_bl, isn_ap, isN_int, isN_str, isN_bl, isN_tup, isN_lst, isN_non, ix_lst, ix_tup, ix_scr, len_lst, len_tup, int_int, list_lst, list_tup, tuple_lst, tuple_tup, asB_bl, getD0, getDS, set0, setS, at0, atS, map_some', bind_some', List.length_cons, List.length_nil, List.any_cons, List.any_nil, ↓fld_ap, ↓mei_ap, ↓faug_ap, ↓c1_ap, ↓ir2_ap, ↓sfld_ap, fldK_ap, meiK2_ap, c1K_ap, sfldK_ap, sfldK2_ap, decide_true, decide_false, and_self, Nat.reduceLeDiff, Nat.reduceAdd, if_true, Int.reduceLT, Int.reduceNeg, Int.reducePow, Int.reduceToNat, Int.reduceLE, Nat.reduceLT, Int.reduceAdd, Int.reduceSub, Bool.not_true, Bool.not_false, Int.reduceEq, bne_self_eq_false, Bool.false_bne, Bool.true_bne, Int.reduceBNe, p1, p2]
  exact endI_nx (by simp)
theorem stop0 : Stop [] := fun c r e => by cases e
theorem nopm0 : NotPM [] := ⟨by simp, by simp⟩
theorem read_ok {t : EH} (hp : t.all pureC = true) {c : Cd} (h : c.ok = true) (hd : c.dep ≤ 6) (l : c.txt.length ≤ 8000) : F_read_condition [.str c.txt] t = some (.ok c.d, t) := by
  have rc := cond_ok (t := t) (s := c.txt) l c 12 0 1 [] h (Nat.zero_le _) stop0 nopm0 (by simp) (by omega) (by omega)
  rw [Nat.zero_add] at rc
  have mk := mkK_ok (C := "ConditionReader") (dd := []) (F := F_ConditionReader_init) (ds := [.str c.txt]) (h := t) (init_ok (t := t) (z := c.txt))
  have mi := fun ε : Ev => fun x : M (List D) => mei_rd (t := t) (s := c.txt) (k := 0) (ε := ε) (m := "condition") (F := F_ConditionReader_condition_ 12) (a := x) (by kernel_rfl)
  have ic := callPK_ok (F := F_is_condition) (h := t ++ [rd c.txt c.txt.length]) (isCond_ok h hd) (go1 c.noRef)
  have tx := callPK_ok (F := F_text_of) (h := t ++ [rd c.txt c.txt.length]) (text_ok c 12 h (by omega) (by omega)) (go1 c.noRef)
  have nl : ¬ (c.txt.length : Int) < (c.txt.length : Int) := by omega
  show endI t.length (m_read_condition [some (.str c.txt), none, none] t) = _
  simp only [m_read_condition, F_ConditionReader_condition, ↓seq_ap, ↓var_ap, ↓c_ap, ↓bin_ap, ↓tst_ap, ↓not_ap, ↓and_ap, ↓or_ap, ↓if_ap, ↓andv_ap, ↓orv_ap, ↓notv_ap, ↓nil_ap, ↓cons_ap, ↓tup_ap, ↓lst_ap, ↓call_ap, ↓callP_ap, ↓callI_ap, ↓perm_ap, ↓nop_ap, ↓smp_ap, ↓sl_ap, ↓chain_ap, ↓isi_ap, ↓lc_ap, ↓lstC_ap, ↓mts_ap, ↓yes_ap, ↓il_ap, ↓it_ap, ↓is_ap, ↓ir1_ap, ↓iz_ap, ↓snil_ap, ↓ret_ap, ↓sif_ap, ↓sexpr_ap, ↓bk_ap, ↓ct_ap, ↓asg_ap, ↓for_ap, ↓par_ap, ↓gname_ap, ↓gnil_ap, ↓gcons_ap, ↓gtup_ap, ↓gsub_ap, bR_ok, bR_ex, rt_some, sq_nx, sq_rt, sq_bk, sq_ct, sq_ex, bS_ok, bS_ex, binK1_ap, binK2_ap, tstK_b, notK_ap, andK_t, andK_f, orK_t, orK_f, ifK_t, ifK_f, andV_t, andV_f, orV_t, orV_f, notV_c, consK1_ap, consK2_ap, tupK_ok, lstK_ok, callK_ap, permK_ap, smP_int, slK1_ap, slK2_ap, slK3_ap, sl_lst, sl_scr, sl_tup, chK1_ap, chK2_ap, chK3_t, chK3_f, chK4_ap, isiK_int, isiK_str, isiK_bl, isiK_non, isiK_tup, isiK_lst, mtsK_str, mtsK2_ap, ilK_lst, ilK_scr, itK_tup, isK_str, izK_l, izK_t, retK_ap, sifK_t, sifK_f, sexprK_ap, asgK_ap, bG_ok, forK_ap, parK_ok, gK_ok, subK1_ok, subK2_ok, add_int, sub_int, mod_int, lt_int, le_int, gt_int, ge_int, eq_int, eq_str, eq_bl, eq_is, eq_si, eq_bs, eq_sb, eq_nn, ne_int, ne_str, ne_bl, isn_ap, isN_int, isN_str, isN_bl, isN_tup, isN_lst, isN_non, ix_lst, ix_tup, ix_scr, len_lst, len_tup, int_int, list_lst, list_tup, tuple_lst, tuple_tup, asB_bl, getD0, getDS, set0, setS, at0, atS, map_some', bind_some', List.length_cons, List.length_nil, List.any_cons, List.any_nil, ↓fld_ap, ↓mei_ap, ↓faug_ap, ↓c1_ap, ↓ir2_ap, ↓sfld_ap, fldK_ap, meiK2_ap, c1K_ap, sfldK_ap, sfldK2_ap, decide_true, decide_false, and_self, Nat.reduceLeDiff, Nat.reduceAdd, if_true, Int.reduceLT, Int.reduceNeg, Int.reducePow, Int.reduceToNat, Int.reduceLE, Nat.reduceLT, Int.reduceAdd, Int.reduceSub, Bool.not_true, Bool.not_false, Int.reduceEq, bne_self_eq_false, Bool.false_bne, Bool.true_bne, Int.reduceBNe, isa, Bool.or_false, mk_ap, mk, mi, rc, f_spot, len_str (z := c.txt) (by omega), nl, ic, tx]
  exact endI_trim hp c.noRef
/-! ## draws of conditions -/
theorem con_small {i : Int} (h : -10 ≤ i ∧ i ≤ 10) : isCon i = true := con_of (by omega)
theorem near_ok {k : Cell} (hk : BagI k) (t : EH) : ∃ (i : Int) (k' : Cell), F__law_near [.ref 0] (k :: t) = some (.ok (.int i), k' :: t) ∧ (-2 ≤ i ∧ i ≤ 3) ∧ BagI k' := by
  obtain ⟨d, k3, e3, hd, hk3⟩ := any_lst hk (ds := [.int 0, .int 1, .int 1, .int 2, .int 3, .int (-1), .int (-2)]) (by simp) (by simp) (by simp [PD.noRef]) t
  have key : ∃ i : Int, d = .int i ∧ (-2 ≤ i ∧ i ≤ 3) := by
    simp only [List.mem_cons, List.not_mem_nil, or_false] at hd
    rcases hd with rfl | rfl | rfl | rfl | rfl | rfl | rfl <;> exact ⟨_, rfl, by omega⟩
  obtain ⟨i, rfl, hi⟩ := key
  refine ⟨i, k3, ?_, hi, hk3⟩
  have e3' : F__law_any [.ref 0, .lst [.int 0, .int 1, .int 1, .int 2, .int 3, .int (-1), .int (-2)]] (k :: t) = some (.ok (.int i), k3 :: t) := e3
  show endI _ (m__law_near [some (.ref 0)] (k :: t)) = _
  simp only [m__law_near, ↓seq_ap, ↓var_ap, ↓c_ap, ↓bin_ap, ↓tst_ap, ↓not_ap, ↓and_ap, ↓or_ap, ↓if_ap, ↓andv_ap, ↓orv_ap, ↓notv_ap, ↓nil_ap, ↓cons_ap, ↓tup_ap, ↓lst_ap, ↓call_ap, ↓callP_ap, ↓callI_ap, ↓perm_ap, ↓nop_ap, ↓smp_ap, ↓sl_ap, ↓chain_ap, ↓isi_ap, ↓lc_ap, ↓lstC_ap, ↓mts_ap, ↓yes_ap, ↓il_ap, ↓it_ap, ↓is_ap, ↓ir1_ap, ↓iz_ap, ↓snil_ap, ↓ret_ap, ↓sif_ap, ↓sexpr_ap, ↓bk_ap, ↓ct_ap, ↓asg_ap, ↓for_ap, ↓par_ap, ↓gname_ap, ↓gnil_ap, ↓gcons_ap, ↓gtup_ap, ↓gsub_ap, bR_ok, bR_ex, rt_some, sq_nx, sq_rt, sq_bk, sq_ct, sq_ex, bS_ok, bS_ex, binK1_ap, binK2_ap, tstK_b, notK_ap, andK_t, andK_f, orK_t, orK_f, ifK_t, ifK_f, andV_t, andV_f, orV_t, orV_f, notV_c, consK1_ap, consK2_ap, tupK_ok, lstK_ok, callK_ap, permK_ap, smP_int, slK1_ap, slK2_ap, slK3_ap, sl_lst, sl_scr, sl_tup, chK1_ap, chK2_ap, chK3_t, chK3_f, chK4_ap, isiK_int, isiK_str, isiK_bl, isiK_non, isiK_tup, isiK_lst, mtsK_str, mtsK2_ap, ilK_lst, ilK_scr, itK_tup, isK_str, izK_l, izK_t, retK_ap, sifK_t, sifK_f, sexprK_ap, asgK_ap, bG_ok, forK_ap, parK_ok, gK_ok, subK1_ok, subK2_ok, add_int, sub_int, mod_int, lt_int, le_int, gt_int, ge_int, eq_int, eq_str, eq_bl, eq_is, eq_si, eq_bs, eq_sb, eq_nn, ne_int, ne_str, ne_bl, isn_ap, isN_int, isN_str, isN_bl, isN_tup, isN_lst, isN_non, ix_lst, ix_tup, ix_scr, len_lst, len_tup, int_int, list_lst, list_tup, tuple_lst, tuple_tup, asB_bl, getD0, getDS, set0, setS, at0, atS, map_some', bind_some', List.length_cons, List.length_nil, List.any_cons, List.any_nil, ↓fld_ap, ↓mei_ap, ↓faug_ap, ↓c1_ap, ↓ir2_ap, ↓sfld_ap, fldK_ap, meiK2_ap, c1K_ap, sfldK_ap, sfldK2_ap, decide_true, decide_false, and_self, Nat.reduceLeDiff, Nat.reduceAdd, if_true, Int.reduceLT, Int.reduceNeg, Int.reducePow, Int.reduceToNat, Int.reduceLE, Nat.reduceLT, Int.reduceAdd, Int.reduceSub, Bool.not_true, Bool.not_false, Int.reduceEq, bne_self_eq_false, Bool.false_bne, Bool.true_bne, Int.reduceBNe, e3']
  exact endI_ok rfl rfl
/-- a pool of values without a plus -/
structure PoolOk (ds : List D) : Prop where
  at_ : ∀ d ∈ ds, ∃ p : Pl, d = p.d ∧ p.ok = true
  len : ds.length ≤ 1000
theorem PoolOk.noRef {ds : List D} (h : PoolOk ds) : ∀ d ∈ ds, PD.noRef d = true := fun d hd => by
  obtain ⟨p, rfl, _⟩ := h.at_ d hd
  exact p.noRef
theorem some_value_ok {k : Cell} (hk : BagI k) {ds : List D} (hp : PoolOk ds) (t : EH) : ∃ (v : Vl) (k' : Cell), F__law_some_value [.ref 0, .lst ds] (k :: t) = some (.ok v.d, k' :: t) ∧ v.ok = true ∧ BagI k' := by
  obtain ⟨i, k1, e1, hi, hk1⟩ := near_ok hk t
  have hl : (ds ++ [(Pl.num i).d]).length = ds.length + 1 := by simp
  have hp' : ∀ d ∈ ds ++ [(Pl.num i).d], ∃ p : Pl, d = p.d ∧ p.ok = true := fun d hd => by
    rcases List.mem_append.mp hd with h | h
    · exact hp.at_ d h
    · exact ⟨.num i, List.mem_singleton.mp h, con_small (by omega)⟩
  have hlen := hp.len
  obtain ⟨d, k2, e2, hd, hk2⟩ := any_lst hk1 (ds := ds ++ [(Pl.num i).d]) (by omega) (by omega) (fun d hd => by obtain ⟨p, rfl, _⟩ := hp' d hd; exact p.noRef) t
  obtain ⟨p, rfl, hpo⟩ := hp' d hd
  obtain ⟨n, k3, e3, n0, n1, hk3⟩ := pull_ok hk2 (n := 3) (by decide) (by decide) t
  have e2' : F__law_any [.ref 0, .lst (ds ++ [.tup [.str [110, 117, 109, 98, 101, 114], .int i]])] (k1 :: t) = some (.ok p.d, k2 :: t) := e2
  have e3' : F__law_pull [.ref 0, .int 3] (k2 :: t) = some (.ok (.int n), k3 :: t) := e3
  have ad : ∀ h : EH, dAdd h (.lst ds) (.lst [.tup [.str [110, 117, 109, 98, 101, 114], .int i]]) = some (.lst (ds ++ [.tup [.str [110, 117, 109, 98, 101, 114], .int i]])) := fun h => add_lst (by simp; omega)
  by_cases q : n = 0
  · obtain ⟨j, k4, e4, hj, hk4⟩ := near_ok hk3 t
    refine ⟨.plus p j, k4, ?_, by show (p.ok && isCon j) = true; rw [hpo, con_small (by omega)]; rfl, hk4⟩
    show endI _ (m__law_some_value [some (.ref 0), some (.lst ds), none] (k :: t)) = _
    simp only [m__law_some_value, ↓seq_ap, ↓var_ap, ↓c_ap, ↓bin_ap, ↓tst_ap, ↓not_ap, ↓and_ap, ↓or_ap, ↓if_ap, ↓andv_ap, ↓orv_ap, ↓notv_ap, ↓nil_ap, ↓cons_ap, ↓tup_ap, ↓lst_ap, ↓call_ap, ↓callP_ap, ↓callI_ap, ↓perm_ap, ↓nop_ap, ↓smp_ap, ↓sl_ap, ↓chain_ap, ↓isi_ap, ↓lc_ap, ↓lstC_ap, ↓mts_ap, ↓yes_ap, ↓il_ap, ↓it_ap, ↓is_ap, ↓ir1_ap, ↓iz_ap, ↓snil_ap, ↓ret_ap, ↓sif_ap, ↓sexpr_ap, ↓bk_ap, ↓ct_ap, ↓asg_ap, ↓for_ap, ↓par_ap, ↓gname_ap, ↓gnil_ap, ↓gcons_ap, ↓gtup_ap, ↓gsub_ap, bR_ok, bR_ex, rt_some, sq_nx, sq_rt, sq_bk, sq_ct, sq_ex, bS_ok, bS_ex, binK1_ap, binK2_ap, tstK_b, notK_ap, andK_t, andK_f, orK_t, orK_f, ifK_t, ifK_f, andV_t, andV_f, orV_t, orV_f, notV_c, consK1_ap, consK2_ap, tupK_ok, lstK_ok, callK_ap, permK_ap, smP_int, slK1_ap, slK2_ap, slK3_ap, sl_lst, sl_scr, sl_tup, chK1_ap, chK2_ap, chK3_t, chK3_f, chK4_ap, isiK_int, isiK_str, isiK_bl, isiK_non, isiK_tup, isiK_lst, mtsK_str, mtsK2_ap, ilK_lst, ilK_scr, itK_tup, isK_str, izK_l, izK_t, retK_ap, sifK_t, sifK_f, sexprK_ap, asgK_ap, bG_ok, forK_ap, parK_ok, gK_ok, subK1_ok, subK2_ok, add_int, sub_int, mod_int, lt_int, le_int, gt_int, ge_int, eq_int, eq_str, eq_bl, eq_is, eq_si, eq_bs, eq_sb, eq_nn, ne_int, ne_str, ne_bl, isn_ap, isN_int, isN_str, isN_bl, isN_tup, isN_lst, isN_non, ix_lst, ix_tup, ix_scr, len_lst, len_tup, int_int, list_lst, list_tup, tuple_lst, tuple_tup, asB_bl, getD0, getDS, set0, setS, at0, atS, map_some', bind_some', List.length_cons, List.length_nil, List.any_cons, List.any_nil, ↓fld_ap, ↓mei_ap, ↓faug_ap, ↓c1_ap, ↓ir2_ap, ↓sfld_ap, fldK_ap, meiK2_ap, c1K_ap, sfldK_ap, sfldK2_ap, decide_true, decide_false, and_self, Nat.reduceLeDiff, Nat.reduceAdd, if_true, Int.reduceLT, Int.reduceNeg, Int.reducePow, Int.reduceToNat, Int.reduceLE, Nat.reduceLT, Int.reduceAdd, Int.reduceSub, Bool.not_true, Bool.not_false, Int.reduceEq, bne_self_eq_false, Bool.false_bne, Bool.true_bne, Int.reduceBNe, e1, ad, e2', e3', q, e4]
    exact endI_ok rfl (Vl.plus p j).noRef
  · refine ⟨.pl p, k3, ?_, hpo, hk3⟩
    show endI _ (m__law_some_value [some (.ref 0), some (.lst ds), none] (k :: t)) = _
    simp only [m__law_some_value, ↓seq_ap, ↓var_ap, ↓c_ap, ↓bin_ap, ↓tst_ap, ↓not_ap, ↓and_ap, ↓or_ap, ↓if_ap, ↓andv_ap, ↓orv_ap, ↓notv_ap, ↓nil_ap, ↓cons_ap, ↓tup_ap, ↓lst_ap, ↓call_ap, ↓callP_ap, ↓callI_ap, ↓perm_ap, ↓nop_ap, ↓smp_ap, ↓sl_ap, ↓chain_ap, ↓isi_ap, ↓lc_ap, ↓lstC_ap, ↓mts_ap, ↓yes_ap, ↓il_ap, ↓it_ap, ↓is_ap, ↓ir1_ap, ↓iz_ap, ↓snil_ap, ↓ret_ap, ↓sif_ap, ↓sexpr_ap, ↓bk_ap, ↓ct_ap, ↓asg_ap, ↓for_ap, ↓par_ap, ↓gname_ap, ↓gnil_ap, ↓gcons_ap, ↓gtup_ap, ↓gsub_ap, bR_ok, bR_ex, rt_some, sq_nx, sq_rt, sq_bk, sq_ct, sq_ex, bS_ok, bS_ex, binK1_ap, binK2_ap, tstK_b, notK_ap, andK_t, andK_f, orK_t, orK_f, ifK_t, ifK_f, andV_t, andV_f, orV_t, orV_f, notV_c, consK1_ap, consK2_ap, tupK_ok, lstK_ok, callK_ap, permK_ap, smP_int, slK1_ap, slK2_ap, slK3_ap, sl_lst, sl_scr, sl_tup, chK1_ap, chK2_ap, chK3_t, chK3_f, chK4_ap, isiK_int, isiK_str, isiK_bl, isiK_non, isiK_tup, isiK_lst, mtsK_str, mtsK2_ap, ilK_lst, ilK_scr, itK_tup, isK_str, izK_l, izK_t, retK_ap, sifK_t, sifK_f, sexprK_ap, asgK_ap, bG_ok, forK_ap, parK_ok, gK_ok, subK1_ok, subK2_ok, add_int, sub_int, mod_int, lt_int, le_int, gt_int, ge_int, eq_int, eq_str, eq_bl, eq_is, eq_si, eq_bs, eq_sb, eq_nn, ne_int, ne_str, ne_bl, isn_ap, isN_int, isN_str, isN_bl, isN_tup, isN_lst, isN_non, ix_lst, ix_tup, ix_scr, len_lst, len_tup, int_int, list_lst, list_tup, tuple_lst, tuple_tup, asB_bl, getD0, getDS, set0, setS, at0, atS, map_some', bind_some', List.length_cons, List.length_nil, List.any_cons, List.any_nil, ↓fld_ap, ↓mei_ap, ↓faug_ap, ↓c1_ap, ↓ir2_ap, ↓sfld_ap, fldK_ap, meiK2_ap, c1K_ap, sfldK_ap, sfldK2_ap, decide_true, decide_false, and_self, Nat.reduceLeDiff, Nat.reduceAdd, if_true, Int.reduceLT, Int.reduceNeg, Int.reducePow, Int.reduceToNat, Int.reduceLE, Nat.reduceLT, Int.reduceAdd, Int.reduceSub, Bool.not_true, Bool.not_false, Int.reduceEq, bne_self_eq_false, Bool.false_bne, Bool.true_bne, Int.reduceBNe, e1, ad, e2', e3', q]
    exact endI_ok rfl p.noRef
theorem okE_abc {z : List Nat} (h : isNm z = true) : (z.all fun c => decide (c < 1114112)) = true := by
  rw [List.all_eq_true]
  intro c hc
  have := abc_rng (nm_mem h hc)
  exact decide_eq_true (by omega)
theorem okE_col {z : List Nat} (h : isCol z = true) : (z.all fun c => decide (c < 1114112)) = true := by
  unfold isCol at h
  rw [Bool.or_eq_true] at h
  rcases h with h | h
  · rw [of_decide_eq_true h]; rfl
  · exact okE_abc h
theorem okE_pl {p : Pl} (h : p.ok = true) : okE 2 p.d = true := by
  cases p with
  | num n => rfl
  | name z => show (true && ((z.all fun c => decide (c < 1114112)) && true)) = true; rw [okE_abc h]; rfl
  | field z y =>
    have h' := Bool.and_eq_true_iff.mp (show (isNm z && isCol y) = true from h)
    show (true && ((z.all fun c => decide (c < 1114112)) && ((y.all fun c => decide (c < 1114112)) && true))) = true
    rw [okE_abc h'.1, okE_col h'.2]; rfl
  | own y => show (true && ((y.all fun c => decide (c < 1114112)) && true)) = true; rw [okE_col h]; rfl
  | next y => show (true && ((y.all fun c => decide (c < 1114112)) && true)) = true; rw [okE_col h]; rfl
theorem PoolOk.okE {ds : List D} (h : PoolOk ds) : okE 3 (.lst ds) = true := List.all_eq_true.mpr fun d hd => by
  obtain ⟨p, rfl, hp⟩ := h.at_ d hd
  exact okE_pl hp
theorem pool_ne {h : EH} {ds : List D} (hp : PoolOk ds) (hn : ds ≠ []) : dNe h (.lst ds) (.lst []) = some (.bl true) := dNe_t (t := 3) (u := 1) hp.okE rfl (by decide) (by decide) fun e => hn (D.lst.inj e)
theorem cw_any : ∀ d ∈ [D.str Cw.am.w, D.str Cw.be.w, D.str Cw.be.w, D.str Cw.sa.w], ∃ o : Cw, d = .str o.w := by
  intro d hd
  simp only [List.mem_cons, List.not_mem_nil, or_false] at hd
  rcases hd with rfl | rfl | rfl | rfl <;> exact ⟨_, rfl⟩
theorem some_compared_ok {k : Cell} (hk : BagI k) {ds : List D} (hp : PoolOk ds) (hn : ds ≠ []) (t : EH) : ∃ (o : Cw) (a b : Vl) (k' : Cell), F__law_some_compared [.ref 0, .lst ds] (k :: t) = some (.ok (Cd.cmp o a b).d, k' :: t) ∧ a.ok = true ∧ b.ok = true ∧ BagI k' := by
  have hlen := hp.len
  have h0 : 0 < ds.length := by cases ds with | nil => exact absurd rfl hn | cons _ _ => simp
  obtain ⟨d, k1, e1, hd, hk1⟩ := any_lst hk (ds := ds) h0 (by omega) hp.noRef t
  obtain ⟨p, rfl, hpo⟩ := hp.at_ d hd
  obtain ⟨n, k2, e2, n0, n1, hk2⟩ := pull_ok hk1 (n := 4) (by decide) (by decide) t
  have e1' : F__law_any [.ref 0, .lst ds] (k :: t) = some (.ok p.d, k1 :: t) := e1
  have e2' : F__law_pull [.ref 0, .int 4] (k1 :: t) = some (.ok (.int n), k2 :: t) := e2
  have fin : ∀ (a : Vl) (k3 : Cell), a.ok = true → BagI k3 → ∃ (o : Cw) (b : Vl) (k5 : Cell), b.ok = true ∧ BagI k5 ∧ msRet (mTup (mCons (mCallI F__law_any (mCons (mVar 0) (mCons (mLst (mCons (mC (.str [97, 116, 109, 111, 115, 116])) (mCons (mC (.str [98, 101, 108, 111, 119])) (mCons (mC (.str [98, 101, 108, 111, 119])) (mCons (mC (.str [115, 97, 109, 101])) mNil))))) mNil))) (mCons (mVar 2) (mCons (mCallI F__law_some_value (mCons (mVar 0) (mCons (mVar 1) mNil))) mNil))))
      [some (.ref 0), some (.lst ds), some a.d] (k3 :: t) = some (.rt (Cd.cmp o a b).d, k5 :: t) := by
    intro a k3 ha hk3
    obtain ⟨d, k4, e4, hd, hk4⟩ := any_lst hk3 (ds := [.str Cw.am.w, .str Cw.be.w, .str Cw.be.w, .str Cw.sa.w]) (by decide) (by decide) (by decide) t
    obtain ⟨o, rfl⟩ := cw_any d hd
    obtain ⟨b, k5, e5, hb, hk5⟩ := some_value_ok hk4 hp t
    have e4' : F__law_any [.ref 0, .lst [.str [97, 116, 109, 111, 115, 116], .str [98, 101, 108, 111, 119], .str [98, 101, 108, 111, 119], .str [115, 97, 109, 101]]] (k3 :: t) = some (.ok (.str o.w), k4 :: t) := e4
    refine ⟨o, b, k5, hb, hk5, ?_⟩
    simp only [↓seq_ap, ↓var_ap, ↓c_ap, ↓bin_ap, ↓tst_ap, ↓not_ap, ↓and_ap, ↓or_ap, ↓if_ap, ↓andv_ap, ↓orv_ap, ↓notv_ap, ↓nil_ap, ↓cons_ap, ↓tup_ap, ↓lst_ap, ↓call_ap, ↓callP_ap, ↓callI_ap, ↓perm_ap, ↓nop_ap, ↓smp_ap, ↓sl_ap, ↓chain_ap, ↓isi_ap, ↓lc_ap, ↓lstC_ap, ↓mts_ap, ↓yes_ap, ↓il_ap, ↓it_ap, ↓is_ap, ↓ir1_ap, ↓iz_ap, ↓snil_ap, ↓ret_ap, ↓sif_ap, ↓sexpr_ap, ↓bk_ap, ↓ct_ap, ↓asg_ap, ↓for_ap, ↓par_ap, ↓gname_ap, ↓gnil_ap, ↓gcons_ap, ↓gtup_ap, ↓gsub_ap, bR_ok, bR_ex, rt_some, sq_nx, sq_rt, sq_bk, sq_ct, sq_ex, bS_ok, bS_ex, binK1_ap, binK2_ap, tstK_b, notK_ap, andK_t, andK_f, orK_t, orK_f, ifK_t, ifK_f, andV_t, andV_f, orV_t, orV_f, notV_c, consK1_ap, consK2_ap, tupK_ok, lstK_ok, callK_ap, permK_ap, smP_int, slK1_ap, slK2_ap, slK3_ap, sl_lst, sl_scr, sl_tup, chK1_ap, chK2_ap, chK3_t, chK3_f, chK4_ap, isiK_int, isiK_str, isiK_bl, isiK_non, isiK_tup, isiK_lst, mtsK_str, mtsK2_ap, ilK_lst, ilK_scr, itK_tup, isK_str, izK_l, izK_t, retK_ap, sifK_t, sifK_f, sexprK_ap, asgK_ap, bG_ok, forK_ap, parK_ok, gK_ok, subK1_ok, subK2_ok, add_int, sub_int, mod_int, lt_int, le_int, gt_int, ge_int, eq_int, eq_str, eq_bl, eq_is, eq_si, eq_bs, eq_sb, eq_nn, ne_int, ne_str, ne_bl, isn_ap, isN_int, isN_str, isN_bl, isN_tup, isN_lst, isN_non, ix_lst, ix_tup, ix_scr, len_lst, len_tup, int_int, list_lst, list_tup, tuple_lst, tuple_tup, asB_bl, getD0, getDS, set0, setS, at0, atS, map_some', bind_some', List.length_cons, List.length_nil, List.any_cons, List.any_nil, ↓fld_ap, ↓mei_ap, ↓faug_ap, ↓c1_ap, ↓ir2_ap, ↓sfld_ap, fldK_ap, meiK2_ap, c1K_ap, sfldK_ap, sfldK2_ap, decide_true, decide_false, and_self, Nat.reduceLeDiff, Nat.reduceAdd, if_true, Int.reduceLT, Int.reduceNeg, Int.reducePow, Int.reduceToNat, Int.reduceLE, Nat.reduceLT, Int.reduceAdd, Int.reduceSub, Bool.not_true, Bool.not_false, Int.reduceEq, bne_self_eq_false, Bool.false_bne, Bool.true_bne, Int.reduceBNe, e4', e5, Cd.d]
  by_cases q : n = 0
  · obtain ⟨j, k3, e3, hj, hk3⟩ := near_ok hk2 t
    obtain ⟨o, b, k5, hb, hk5, ef⟩ := fin (.plus p j) k3 (by show (p.ok && isCon j) = true; rw [hpo, con_small (by omega)]; rfl) hk3
    refine ⟨o, .plus p j, b, k5, ?_, by show (p.ok && isCon j) = true; rw [hpo, con_small (by omega)]; rfl, hb, hk5⟩
    have ef' := ef
    simp only [Vl.d, sPlus] at ef'
    show endI _ (m__law_some_compared [some (.ref 0), some (.lst ds), none] (k :: t)) = _
    simp only [m__law_some_compared, ↓seq_ap, ↓var_ap, ↓c_ap, ↓bin_ap, ↓tst_ap, ↓not_ap, ↓and_ap, ↓or_ap, ↓if_ap, ↓andv_ap, ↓orv_ap, ↓notv_ap, ↓nil_ap, ↓cons_ap, ↓tup_ap, ↓lst_ap, ↓call_ap, ↓callP_ap, ↓callI_ap, ↓perm_ap, ↓nop_ap, ↓smp_ap, ↓sl_ap, ↓chain_ap, ↓isi_ap, ↓lc_ap, ↓lstC_ap, ↓mts_ap, ↓yes_ap, ↓il_ap, ↓it_ap, ↓is_ap, ↓ir1_ap, ↓iz_ap, ↓snil_ap, ↓ret_ap, ↓sif_ap, ↓sexpr_ap, ↓bk_ap, ↓ct_ap, ↓asg_ap, ↓for_ap, ↓par_ap, ↓gname_ap, ↓gnil_ap, ↓gcons_ap, ↓gtup_ap, ↓gsub_ap, bR_ok, bR_ex, rt_some, sq_nx, sq_rt, sq_bk, sq_ct, sq_ex, bS_ok, bS_ex, binK1_ap, binK2_ap, tstK_b, notK_ap, andK_t, andK_f, orK_t, orK_f, ifK_t, ifK_f, andV_t, andV_f, orV_t, orV_f, notV_c, consK1_ap, consK2_ap, tupK_ok, lstK_ok, callK_ap, permK_ap, smP_int, slK1_ap, slK2_ap, slK3_ap, sl_lst, sl_scr, sl_tup, chK1_ap, chK2_ap, chK3_t, chK3_f, chK4_ap, isiK_int, isiK_str, isiK_bl, isiK_non, isiK_tup, isiK_lst, mtsK_str, mtsK2_ap, ilK_lst, ilK_scr, itK_tup, isK_str, izK_l, izK_t, retK_ap, sifK_t, sifK_f, sexprK_ap, asgK_ap, bG_ok, forK_ap, parK_ok, gK_ok, subK1_ok, subK2_ok, add_int, sub_int, mod_int, lt_int, le_int, gt_int, ge_int, eq_int, eq_str, eq_bl, eq_is, eq_si, eq_bs, eq_sb, eq_nn, ne_int, ne_str, ne_bl, isn_ap, isN_int, isN_str, isN_bl, isN_tup, isN_lst, isN_non, ix_lst, ix_tup, ix_scr, len_lst, len_tup, int_int, list_lst, list_tup, tuple_lst, tuple_tup, asB_bl, getD0, getDS, set0, setS, at0, atS, map_some', bind_some', List.length_cons, List.length_nil, List.any_cons, List.any_nil, ↓fld_ap, ↓mei_ap, ↓faug_ap, ↓c1_ap, ↓ir2_ap, ↓sfld_ap, fldK_ap, meiK2_ap, c1K_ap, sfldK_ap, sfldK2_ap, decide_true, decide_false, and_self, Nat.reduceLeDiff, Nat.reduceAdd, if_true, Int.reduceLT, Int.reduceNeg, Int.reducePow, Int.reduceToNat, Int.reduceLE, Nat.reduceLT, Int.reduceAdd, Int.reduceSub, Bool.not_true, Bool.not_false, Int.reduceEq, bne_self_eq_false, Bool.false_bne, Bool.true_bne, Int.reduceBNe, pool_ne hp hn, e1', e2', q, e3]
    simp only [↓seq_ap, ↓var_ap, ↓c_ap, ↓bin_ap, ↓tst_ap, ↓not_ap, ↓and_ap, ↓or_ap, ↓if_ap, ↓andv_ap, ↓orv_ap, ↓notv_ap, ↓nil_ap, ↓cons_ap, ↓tup_ap, ↓lst_ap, ↓call_ap, ↓callP_ap, ↓callI_ap, ↓perm_ap, ↓nop_ap, ↓smp_ap, ↓sl_ap, ↓chain_ap, ↓isi_ap, ↓lc_ap, ↓lstC_ap, ↓mts_ap, ↓yes_ap, ↓il_ap, ↓it_ap, ↓is_ap, ↓ir1_ap, ↓iz_ap, ↓snil_ap, ↓ret_ap, ↓sif_ap, ↓sexpr_ap, ↓bk_ap, ↓ct_ap, ↓asg_ap, ↓for_ap, ↓par_ap, ↓gname_ap, ↓gnil_ap, ↓gcons_ap, ↓gtup_ap, ↓gsub_ap, bR_ok, bR_ex, rt_some, sq_nx, sq_rt, sq_bk, sq_ct, sq_ex, bS_ok, bS_ex, binK1_ap, binK2_ap, tstK_b, notK_ap, andK_t, andK_f, orK_t, orK_f, ifK_t, ifK_f, andV_t, andV_f, orV_t, orV_f, notV_c, consK1_ap, consK2_ap, tupK_ok, lstK_ok, callK_ap, permK_ap, smP_int, slK1_ap, slK2_ap, slK3_ap, sl_lst, sl_scr, sl_tup, chK1_ap, chK2_ap, chK3_t, chK3_f, chK4_ap, isiK_int, isiK_str, isiK_bl, isiK_non, isiK_tup, isiK_lst, mtsK_str, mtsK2_ap, ilK_lst, ilK_scr, itK_tup, isK_str, izK_l, izK_t, retK_ap, sifK_t, sifK_f, sexprK_ap, asgK_ap, bG_ok, forK_ap, parK_ok, gK_ok, subK1_ok, subK2_ok, add_int, sub_int, mod_int, lt_int, le_int, gt_int, ge_int, eq_int, eq_str, eq_bl, eq_is, eq_si, eq_bs, eq_sb, eq_nn, ne_int, ne_str, ne_bl, isn_ap, isN_int, isN_str, isN_bl, isN_tup, isN_lst, isN_non, ix_lst, ix_tup, ix_scr, len_lst, len_tup, int_int, list_lst, list_tup, tuple_lst, tuple_tup, asB_bl, getD0, getDS, set0, setS, at0, atS, map_some', bind_some', List.length_cons, List.length_nil, List.any_cons, List.any_nil, ↓fld_ap, ↓mei_ap, ↓faug_ap, ↓c1_ap, ↓ir2_ap, ↓sfld_ap, fldK_ap, meiK2_ap, c1K_ap, sfldK_ap, sfldK2_ap, decide_true, decide_false, and_self, Nat.reduceLeDiff, Nat.reduceAdd, if_true, Int.reduceLT, Int.reduceNeg, Int.reducePow, Int.reduceToNat, Int.reduceLE, Nat.reduceLT, Int.reduceAdd, Int.reduceSub, Bool.not_true, Bool.not_false, Int.reduceEq, bne_self_eq_false, Bool.false_bne, Bool.true_bne, Int.reduceBNe] at ef'
    rw [ef']
    exact endI_ok rfl (Cd.cmp o (.plus p j) b).noRef
  · obtain ⟨o, b, k5, hb, hk5, ef⟩ := fin (.pl p) k2 hpo hk2
    refine ⟨o, .pl p, b, k5, ?_, hpo, hb, hk5⟩
    have ef' := ef
    simp only [Vl.d] at ef'
    show endI _ (m__law_some_compared [some (.ref 0), some (.lst ds), none] (k :: t)) = _
    simp only [m__law_some_compared, ↓seq_ap, ↓var_ap, ↓c_ap, ↓bin_ap, ↓tst_ap, ↓not_ap, ↓and_ap, ↓or_ap, ↓if_ap, ↓andv_ap, ↓orv_ap, ↓notv_ap, ↓nil_ap, ↓cons_ap, ↓tup_ap, ↓lst_ap, ↓call_ap, ↓callP_ap, ↓callI_ap, ↓perm_ap, ↓nop_ap, ↓smp_ap, ↓sl_ap, ↓chain_ap, ↓isi_ap, ↓lc_ap, ↓lstC_ap, ↓mts_ap, ↓yes_ap, ↓il_ap, ↓it_ap, ↓is_ap, ↓ir1_ap, ↓iz_ap, ↓snil_ap, ↓ret_ap, ↓sif_ap, ↓sexpr_ap, ↓bk_ap, ↓ct_ap, ↓asg_ap, ↓for_ap, ↓par_ap, ↓gname_ap, ↓gnil_ap, ↓gcons_ap, ↓gtup_ap, ↓gsub_ap, bR_ok, bR_ex, rt_some, sq_nx, sq_rt, sq_bk, sq_ct, sq_ex, bS_ok, bS_ex, binK1_ap, binK2_ap, tstK_b, notK_ap, andK_t, andK_f, orK_t, orK_f, ifK_t, ifK_f, andV_t, andV_f, orV_t, orV_f, notV_c, consK1_ap, consK2_ap, tupK_ok, lstK_ok, callK_ap, permK_ap, smP_int, slK1_ap, slK2_ap, slK3_ap, sl_lst, sl_scr, sl_tup, chK1_ap, chK2_ap, chK3_t, chK3_f, chK4_ap, isiK_int, isiK_str, isiK_bl, isiK_non, isiK_tup, isiK_lst, mtsK_str, mtsK2_ap, ilK_lst, ilK_scr, itK_tup, isK_str, izK_l, izK_t, retK_ap, sifK_t, sifK_f, sexprK_ap, asgK_ap, bG_ok, forK_ap, parK_ok, gK_ok, subK1_ok, subK2_ok, add_int, sub_int, mod_int, lt_int, le_int, gt_int, ge_int, eq_int, eq_str, eq_bl, eq_is, eq_si, eq_bs, eq_sb, eq_nn, ne_int, ne_str, ne_bl, isn_ap, isN_int, isN_str, isN_bl, isN_tup, isN_lst, isN_non, ix_lst, ix_tup, ix_scr, len_lst, len_tup, int_int, list_lst, list_tup, tuple_lst, tuple_tup, asB_bl, getD0, getDS, set0, setS, at0, atS, map_some', bind_some', List.length_cons, List.length_nil, List.any_cons, List.any_nil, ↓fld_ap, ↓mei_ap, ↓faug_ap, ↓c1_ap, ↓ir2_ap, ↓sfld_ap, fldK_ap, meiK2_ap, c1K_ap, sfldK_ap, sfldK2_ap, decide_true, decide_false, and_self, Nat.reduceLeDiff, Nat.reduceAdd, if_true, Int.reduceLT, Int.reduceNeg, Int.reducePow, Int.reduceToNat, Int.reduceLE, Nat.reduceLT, Int.reduceAdd, Int.reduceSub, Bool.not_true, Bool.not_false, Int.reduceEq, bne_self_eq_false, Bool.false_bne, Bool.true_bne, Int.reduceBNe, pool_ne hp hn, e1', e2', q]
    simp only [↓seq_ap, ↓var_ap, ↓c_ap, ↓bin_ap, ↓tst_ap, ↓not_ap, ↓and_ap, ↓or_ap, ↓if_ap, ↓andv_ap, ↓orv_ap, ↓notv_ap, ↓nil_ap, ↓cons_ap, ↓tup_ap, ↓lst_ap, ↓call_ap, ↓callP_ap, ↓callI_ap, ↓perm_ap, ↓nop_ap, ↓smp_ap, ↓sl_ap, ↓chain_ap, ↓isi_ap, ↓lc_ap, ↓lstC_ap, ↓mts_ap, ↓yes_ap, ↓il_ap, ↓it_ap, ↓is_ap, ↓ir1_ap, ↓iz_ap, ↓snil_ap, ↓ret_ap, ↓sif_ap, ↓sexpr_ap, ↓bk_ap, ↓ct_ap, ↓asg_ap, ↓for_ap, ↓par_ap, ↓gname_ap, ↓gnil_ap, ↓gcons_ap, ↓gtup_ap, ↓gsub_ap, bR_ok, bR_ex, rt_some, sq_nx, sq_rt, sq_bk, sq_ct, sq_ex, bS_ok, bS_ex, binK1_ap, binK2_ap, tstK_b, notK_ap, andK_t, andK_f, orK_t, orK_f, ifK_t, ifK_f, andV_t, andV_f, orV_t, orV_f, notV_c, consK1_ap, consK2_ap, tupK_ok, lstK_ok, callK_ap, permK_ap, smP_int, slK1_ap, slK2_ap, slK3_ap, sl_lst, sl_scr, sl_tup, chK1_ap, chK2_ap, chK3_t, chK3_f, chK4_ap, isiK_int, isiK_str, isiK_bl, isiK_non, isiK_tup, isiK_lst, mtsK_str, mtsK2_ap, ilK_lst, ilK_scr, itK_tup, isK_str, izK_l, izK_t, retK_ap, sifK_t, sifK_f, sexprK_ap, asgK_ap, bG_ok, forK_ap, parK_ok, gK_ok, subK1_ok, subK2_ok, add_int, sub_int, mod_int, lt_int, le_int, gt_int, ge_int, eq_int, eq_str, eq_bl, eq_is, eq_si, eq_bs, eq_sb, eq_nn, ne_int, ne_str, ne_bl, isn_ap, isN_int, isN_str, isN_bl, isN_tup, isN_lst, isN_non, ix_lst, ix_tup, ix_scr, len_lst, len_tup, int_int, list_lst, list_tup, tuple_lst, tuple_tup, asB_bl, getD0, getDS, set0, setS, at0, atS, map_some', bind_some', List.length_cons, List.length_nil, List.any_cons, List.any_nil, ↓fld_ap, ↓mei_ap, ↓faug_ap, ↓c1_ap, ↓ir2_ap, ↓sfld_ap, fldK_ap, meiK2_ap, c1K_ap, sfldK_ap, sfldK2_ap, decide_true, decide_false, and_self, Nat.reduceLeDiff, Nat.reduceAdd, if_true, Int.reduceLT, Int.reduceNeg, Int.reducePow, Int.reduceToNat, Int.reduceLE, Nat.reduceLT, Int.reduceAdd, Int.reduceSub, Bool.not_true, Bool.not_false, Int.reduceEq, bne_self_eq_false, Bool.false_bne, Bool.true_bne, Int.reduceBNe] at ef'
    rw [ef']
    exact endI_ok rfl (Cd.cmp o (.pl p) b).noRef
theorem some_cond_ok {ds : List D} (hp : PoolOk ds) (hn : ds ≠ []) (t : EH) : ∀ (f : Nat) (dp : Nat) (k : Cell), BagI k → dp < f → ∃ (c : Cd) (k' : Cell), F__law_some_condition_ f [.ref 0, .lst ds, .int dp] (k :: t) = some (.ok c.d, k' :: t) ∧ c.ok = true ∧ c.dep ≤ dp + 1 ∧ BagI k'
  | 0, dp, k, hk, hf => absurd hf (Nat.not_lt_zero _)
  | f + 1, dp, k, hk, hf => by
    have way : ∃ (n : Int) (k1 : Cell), mIf (mTst (mBin dGt (mVar 2) (mC (.int 0)))) (mCallI F__law_pull (mCons (mVar 0) (mCons (mC (.int 7)) mNil))) (mCallI F__law_pull (mCons (mVar 0) (mCons (mC (.int 3)) mNil))) [some (.ref 0), some (.lst ds), some (.int dp), none, none] (k :: t) = some (.ok (.int n), k1 :: t) ∧ 0 ≤ n ∧ n < 7 ∧ (4 ≤ n → 0 < dp) ∧ BagI k1 := by
      by_cases q : 0 < dp
      · obtain ⟨n, k1, e, n0, n1, hk1⟩ := pull_ok hk (n := 7) (by decide) (by decide) t
        have e' : F__law_pull [.ref 0, .int 7] (k :: t) = some (.ok (.int n), k1 :: t) := e
        have q' : (0 : Int) < (dp : Int) := by omega
        exact ⟨n, k1, by simp only [↓seq_ap, ↓var_ap, ↓c_ap, ↓bin_ap, ↓tst_ap, ↓not_ap, ↓and_ap, ↓or_ap, ↓if_ap, ↓andv_ap, ↓orv_ap, ↓notv_ap, ↓nil_ap, ↓cons_ap, ↓tup_ap, ↓lst_ap, ↓call_ap, ↓callP_ap, ↓callI_ap, ↓perm_ap, ↓nop_ap, ↓smp_ap, ↓sl_ap, ↓chain_ap, ↓isi_ap, ↓lc_ap, ↓lstC_ap, ↓mts_ap, ↓yes_ap, ↓il_ap, ↓it_ap, ↓is_ap, ↓ir1_ap, ↓iz_ap, ↓snil_ap, ↓ret_ap, ↓sif_ap, ↓sexpr_ap, ↓bk_ap, ↓ct_ap, ↓asg_ap, ↓for_ap, ↓par_ap, ↓gname_ap, ↓gnil_ap, ↓gcons_ap, ↓gtup_ap, ↓gsub_ap, bR_ok, bR_ex, rt_some, sq_nx, sq_rt, sq_bk, sq_ct, sq_ex, bS_ok, bS_ex, binK1_ap, binK2_ap, tstK_b, notK_ap, andK_t, andK_f, orK_t, orK_f, ifK_t, ifK_f, andV_t, andV_f, orV_t, orV_f, notV_c, consK1_ap, consK2_ap, tupK_ok, lstK_ok, callK_ap, permK_ap, smP_int, slK1_ap, slK2_ap, slK3_ap, sl_lst, sl_scr, sl_tup, chK1_ap, chK2_ap, chK3_t, chK3_f, chK4_ap, isiK_int, isiK_str, isiK_bl, isiK_non, isiK_tup, isiK_lst, mtsK_str, mtsK2_ap, ilK_lst, ilK_scr, itK_tup, isK_str, izK_l, izK_t, retK_ap, sifK_t, sifK_f, sexprK_ap, asgK_ap, bG_ok, forK_ap, parK_ok, gK_ok, subK1_ok, subK2_ok, add_int, sub_int, mod_int, lt_int, le_int, gt_int, ge_int, eq_int, eq_str, eq_bl, eq_is, eq_si, eq_bs, eq_sb, eq_nn, ne_int, ne_str, ne_bl, isn_ap, isN_int, isN_str, isN_bl, isN_tup, isN_lst, isN_non, ix_lst, ix_tup, ix_scr, len_lst, len_tup, int_int, list_lst, list_tup, tuple_lst, tuple_tup, asB_bl, getD0, getDS, set0, setS, at0, atS, map_some', bind_some', List.length_cons, List.length_nil, List.any_cons, List.any_nil, ↓fld_ap, ↓mei_ap, ↓faug_ap, ↓c1_ap, ↓ir2_ap, ↓sfld_ap, fldK_ap, meiK2_ap, c1K_ap, sfldK_ap, sfldK2_ap, decide_true, decide_false, and_self, Nat.reduceLeDiff, Nat.reduceAdd, if_true, Int.reduceLT, Int.reduceNeg, Int.reducePow, Int.reduceToNat, Int.reduceLE, Nat.reduceLT, Int.reduceAdd, Int.reduceSub, Bool.not_true, Bool.not_false, Int.reduceEq, bne_self_eq_false, Bool.false_bne, Bool.true_bne, Int.reduceBNe, q', e'], n0, n1, fun _ => q, hk1⟩
      · obtain ⟨n, k1, e, n0, n1, hk1⟩ := pull_ok hk (n := 3) (by decide) (by decide) t
        have e' : F__law_pull [.ref 0, .int 3] (k :: t) = some (.ok (.int n), k1 :: t) := e
        have q' : ¬ (0 : Int) < (dp : Int) := by omega
        exact ⟨n, k1, by simp only [↓seq_ap, ↓var_ap, ↓c_ap, ↓bin_ap, ↓tst_ap, ↓not_ap, ↓and_ap, ↓or_ap, ↓if_ap, ↓andv_ap, ↓orv_ap, ↓notv_ap, ↓nil_ap, ↓cons_ap, ↓tup_ap, ↓lst_ap, ↓call_ap, ↓callP_ap, ↓callI_ap, ↓perm_ap, ↓nop_ap, ↓smp_ap, ↓sl_ap, ↓chain_ap, ↓isi_ap, ↓lc_ap, ↓lstC_ap, ↓mts_ap, ↓yes_ap, ↓il_ap, ↓it_ap, ↓is_ap, ↓ir1_ap, ↓iz_ap, ↓snil_ap, ↓ret_ap, ↓sif_ap, ↓sexpr_ap, ↓bk_ap, ↓ct_ap, ↓asg_ap, ↓for_ap, ↓par_ap, ↓gname_ap, ↓gnil_ap, ↓gcons_ap, ↓gtup_ap, ↓gsub_ap, bR_ok, bR_ex, rt_some, sq_nx, sq_rt, sq_bk, sq_ct, sq_ex, bS_ok, bS_ex, binK1_ap, binK2_ap, tstK_b, notK_ap, andK_t, andK_f, orK_t, orK_f, ifK_t, ifK_f, andV_t, andV_f, orV_t, orV_f, notV_c, consK1_ap, consK2_ap, tupK_ok, lstK_ok, callK_ap, permK_ap, smP_int, slK1_ap, slK2_ap, slK3_ap, sl_lst, sl_scr, sl_tup, chK1_ap, chK2_ap, chK3_t, chK3_f, chK4_ap, isiK_int, isiK_str, isiK_bl, isiK_non, isiK_tup, isiK_lst, mtsK_str, mtsK2_ap, ilK_lst, ilK_scr, itK_tup, isK_str, izK_l, izK_t, retK_ap, sifK_t, sifK_f, sexprK_ap, asgK_ap, bG_ok, forK_ap, parK_ok, gK_ok, subK1_ok, subK2_ok, add_int, sub_int, mod_int, lt_int, le_int, gt_int, ge_int, eq_int, eq_str, eq_bl, eq_is, eq_si, eq_bs, eq_sb, eq_nn, ne_int, ne_str, ne_bl, isn_ap, isN_int, isN_str, isN_bl, isN_tup, isN_lst, isN_non, ix_lst, ix_tup, ix_scr, len_lst, len_tup, int_int, list_lst, list_tup, tuple_lst, tuple_tup, asB_bl, getD0, getDS, set0, setS, at0, atS, map_some', bind_some', List.length_cons, List.length_nil, List.any_cons, List.any_nil, ↓fld_ap, ↓mei_ap, ↓faug_ap, ↓c1_ap, ↓ir2_ap, ↓sfld_ap, fldK_ap, meiK2_ap, c1K_ap, sfldK_ap, sfldK2_ap, decide_true, decide_false, and_self, Nat.reduceLeDiff, Nat.reduceAdd, if_true, Int.reduceLT, Int.reduceNeg, Int.reducePow, Int.reduceToNat, Int.reduceLE, Nat.reduceLT, Int.reduceAdd, Int.reduceSub, Bool.not_true, Bool.not_false, Int.reduceEq, bne_self_eq_false, Bool.false_bne, Bool.true_bne, Int.reduceBNe, q', e'], n0, by omega, fun h => by omega, hk1⟩
    obtain ⟨n, k1, e1, n0, n1, n4, hk1⟩ := way
    simp only [↓seq_ap, ↓var_ap, ↓c_ap, ↓bin_ap, ↓tst_ap, ↓not_ap, ↓and_ap, ↓or_ap, ↓if_ap, ↓andv_ap, ↓orv_ap, ↓notv_ap, ↓nil_ap, ↓cons_ap, ↓tup_ap, ↓lst_ap, ↓call_ap, ↓callP_ap, ↓callI_ap, ↓perm_ap, ↓nop_ap, ↓smp_ap, ↓sl_ap, ↓chain_ap, ↓isi_ap, ↓lc_ap, ↓lstC_ap, ↓mts_ap, ↓yes_ap, ↓il_ap, ↓it_ap, ↓is_ap, ↓ir1_ap, ↓iz_ap, ↓snil_ap, ↓ret_ap, ↓sif_ap, ↓sexpr_ap, ↓bk_ap, ↓ct_ap, ↓asg_ap, ↓for_ap, ↓par_ap, ↓gname_ap, ↓gnil_ap, ↓gcons_ap, ↓gtup_ap, ↓gsub_ap, bR_ok, bR_ex, rt_some, sq_nx, sq_rt, sq_bk, sq_ct, sq_ex, bS_ok, bS_ex, binK1_ap, binK2_ap, tstK_b, notK_ap, andK_t, andK_f, orK_t, orK_f, ifK_t, ifK_f, andV_t, andV_f, orV_t, orV_f, notV_c, consK1_ap, consK2_ap, tupK_ok, lstK_ok, callK_ap, permK_ap, smP_int, slK1_ap, slK2_ap, slK3_ap, sl_lst, sl_scr, sl_tup, chK1_ap, chK2_ap, chK3_t, chK3_f, chK4_ap, isiK_int, isiK_str, isiK_bl, isiK_non, isiK_tup, isiK_lst, mtsK_str, mtsK2_ap, ilK_lst, ilK_scr, itK_tup, isK_str, izK_l, izK_t, retK_ap, sifK_t, sifK_f, sexprK_ap, asgK_ap, bG_ok, forK_ap, parK_ok, gK_ok, subK1_ok, subK2_ok, add_int, sub_int, mod_int, lt_int, le_int, gt_int, ge_int, eq_int, eq_str, eq_bl, eq_is, eq_si, eq_bs, eq_sb, eq_nn, ne_int, ne_str, ne_bl, isn_ap, isN_int, isN_str, isN_bl, isN_tup, isN_lst, isN_non, ix_lst, ix_tup, ix_scr, len_lst, len_tup, int_int, list_lst, list_tup, tuple_lst, tuple_tup, asB_bl, getD0, getDS, set0, setS, at0, atS, map_some', bind_some', List.length_cons, List.length_nil, List.any_cons, List.any_nil, ↓fld_ap, ↓mei_ap, ↓faug_ap, ↓c1_ap, ↓ir2_ap, ↓sfld_ap, fldK_ap, meiK2_ap, c1K_ap, sfldK_ap, sfldK2_ap, decide_true, decide_false, and_self, Nat.reduceLeDiff, Nat.reduceAdd, if_true, Int.reduceLT, Int.reduceNeg, Int.reducePow, Int.reduceToNat, Int.reduceLE, Nat.reduceLT, Int.reduceAdd, Int.reduceSub, Bool.not_true, Bool.not_false, Int.reduceEq, bne_self_eq_false, Bool.false_bne, Bool.true_bne, Int.reduceBNe] at e1
    by_cases q1 : n < 1
    · refine ⟨.tru, k1, ?_, rfl, by show 1 ≤ dp + 1; omega, hk1⟩
      show endI _ (m__law_some_condition (F__law_some_condition_ f) [some (.ref 0), some (.lst ds), some (.int dp), none, none] (k :: t)) = _
      simp only [m__law_some_condition, ↓seq_ap, ↓var_ap, ↓c_ap, ↓bin_ap, ↓tst_ap, ↓not_ap, ↓and_ap, ↓or_ap, ↓if_ap, ↓andv_ap, ↓orv_ap, ↓notv_ap, ↓nil_ap, ↓cons_ap, ↓tup_ap, ↓lst_ap, ↓call_ap, ↓callP_ap, ↓callI_ap, ↓perm_ap, ↓nop_ap, ↓smp_ap, ↓sl_ap, ↓chain_ap, ↓isi_ap, ↓lc_ap, ↓lstC_ap, ↓mts_ap, ↓yes_ap, ↓il_ap, ↓it_ap, ↓is_ap, ↓ir1_ap, ↓iz_ap, ↓snil_ap, ↓ret_ap, ↓sif_ap, ↓sexpr_ap, ↓bk_ap, ↓ct_ap, ↓asg_ap, ↓for_ap, ↓par_ap, ↓gname_ap, ↓gnil_ap, ↓gcons_ap, ↓gtup_ap, ↓gsub_ap, bR_ok, bR_ex, rt_some, sq_nx, sq_rt, sq_bk, sq_ct, sq_ex, bS_ok, bS_ex, binK1_ap, binK2_ap, tstK_b, notK_ap, andK_t, andK_f, orK_t, orK_f, ifK_t, ifK_f, andV_t, andV_f, orV_t, orV_f, notV_c, consK1_ap, consK2_ap, tupK_ok, lstK_ok, callK_ap, permK_ap, smP_int, slK1_ap, slK2_ap, slK3_ap, sl_lst, sl_scr, sl_tup, chK1_ap, chK2_ap, chK3_t, chK3_f, chK4_ap, isiK_int, isiK_str, isiK_bl, isiK_non, isiK_tup, isiK_lst, mtsK_str, mtsK2_ap, ilK_lst, ilK_scr, itK_tup, isK_str, izK_l, izK_t, retK_ap, sifK_t, sifK_f, sexprK_ap, asgK_ap, bG_ok, forK_ap, parK_ok, gK_ok, subK1_ok, subK2_ok, add_int, sub_int, mod_int, lt_int, le_int, gt_int, ge_int, eq_int, eq_str, eq_bl, eq_is, eq_si, eq_bs, eq_sb, eq_nn, ne_int, ne_str, ne_bl, isn_ap, isN_int, isN_str, isN_bl, isN_tup, isN_lst, isN_non, ix_lst, ix_tup, ix_scr, len_lst, len_tup, int_int, list_lst, list_tup, tuple_lst, tuple_tup, asB_bl, getD0, getDS, set0, setS, at0, atS, map_some', bind_some', List.length_cons, List.length_nil, List.any_cons, List.any_nil, ↓fld_ap, ↓mei_ap, ↓faug_ap, ↓c1_ap, ↓ir2_ap, ↓sfld_ap, fldK_ap, meiK2_ap, c1K_ap, sfldK_ap, sfldK2_ap, decide_true, decide_false, and_self, Nat.reduceLeDiff, Nat.reduceAdd, if_true, Int.reduceLT, Int.reduceNeg, Int.reducePow, Int.reduceToNat, Int.reduceLE, Nat.reduceLT, Int.reduceAdd, Int.reduceSub, Bool.not_true, Bool.not_false, Int.reduceEq, bne_self_eq_false, Bool.false_bne, Bool.true_bne, Int.reduceBNe, e1, q1]
      exact endI_ok rfl rfl
    · by_cases q2 : n < 4
      · obtain ⟨o, a, b, k2, e2, ha, hb, hk2⟩ := some_compared_ok hk1 hp hn t
        refine ⟨.cmp o a b, k2, ?_, by show (a.ok && b.ok) = true; rw [ha, hb]; rfl, by show 1 ≤ dp + 1; omega, hk2⟩
        show endI _ (m__law_some_condition (F__law_some_condition_ f) [some (.ref 0), some (.lst ds), some (.int dp), none, none] (k :: t)) = _
        simp only [m__law_some_condition, ↓seq_ap, ↓var_ap, ↓c_ap, ↓bin_ap, ↓tst_ap, ↓not_ap, ↓and_ap, ↓or_ap, ↓if_ap, ↓andv_ap, ↓orv_ap, ↓notv_ap, ↓nil_ap, ↓cons_ap, ↓tup_ap, ↓lst_ap, ↓call_ap, ↓callP_ap, ↓callI_ap, ↓perm_ap, ↓nop_ap, ↓smp_ap, ↓sl_ap, ↓chain_ap, ↓isi_ap, ↓lc_ap, ↓lstC_ap, ↓mts_ap, ↓yes_ap, ↓il_ap, ↓it_ap, ↓is_ap, ↓ir1_ap, ↓iz_ap, ↓snil_ap, ↓ret_ap, ↓sif_ap, ↓sexpr_ap, ↓bk_ap, ↓ct_ap, ↓asg_ap, ↓for_ap, ↓par_ap, ↓gname_ap, ↓gnil_ap, ↓gcons_ap, ↓gtup_ap, ↓gsub_ap, bR_ok, bR_ex, rt_some, sq_nx, sq_rt, sq_bk, sq_ct, sq_ex, bS_ok, bS_ex, binK1_ap, binK2_ap, tstK_b, notK_ap, andK_t, andK_f, orK_t, orK_f, ifK_t, ifK_f, andV_t, andV_f, orV_t, orV_f, notV_c, consK1_ap, consK2_ap, tupK_ok, lstK_ok, callK_ap, permK_ap, smP_int, slK1_ap, slK2_ap, slK3_ap, sl_lst, sl_scr, sl_tup, chK1_ap, chK2_ap, chK3_t, chK3_f, chK4_ap, isiK_int, isiK_str, isiK_bl, isiK_non, isiK_tup, isiK_lst, mtsK_str, mtsK2_ap, ilK_lst, ilK_scr, itK_tup, isK_str, izK_l, izK_t, retK_ap, sifK_t, sifK_f, sexprK_ap, asgK_ap, bG_ok, forK_ap, parK_ok, gK_ok, subK1_ok, subK2_ok, add_int, sub_int, mod_int, lt_int, le_int, gt_int, ge_int, eq_int, eq_str, eq_bl, eq_is, eq_si, eq_bs, eq_sb, eq_nn, ne_int, ne_str, ne_bl, isn_ap, isN_int, isN_str, isN_bl, isN_tup, isN_lst, isN_non, ix_lst, ix_tup, ix_scr, len_lst, len_tup, int_int, list_lst, list_tup, tuple_lst, tuple_tup, asB_bl, getD0, getDS, set0, setS, at0, atS, map_some', bind_some', List.length_cons, List.length_nil, List.any_cons, List.any_nil, ↓fld_ap, ↓mei_ap, ↓faug_ap, ↓c1_ap, ↓ir2_ap, ↓sfld_ap, fldK_ap, meiK2_ap, c1K_ap, sfldK_ap, sfldK2_ap, decide_true, decide_false, and_self, Nat.reduceLeDiff, Nat.reduceAdd, if_true, Int.reduceLT, Int.reduceNeg, Int.reducePow, Int.reduceToNat, Int.reduceLE, Nat.reduceLT, Int.reduceAdd, Int.reduceSub, Bool.not_true, Bool.not_false, Int.reduceEq, bne_self_eq_false, Bool.false_bne, Bool.true_bne, Int.reduceBNe, e1, q1, q2, e2]
        exact endI_ok rfl (Cd.cmp o a b).noRef
      · obtain ⟨e, rfl⟩ : ∃ e, dp = e + 1 := ⟨dp - 1, by have := n4 (by omega); omega⟩
        obtain ⟨c, k2, e2, hc, hcd, hk2⟩ := some_cond_ok hp hn t f e k1 hk1 (by omega)
        have em : ((e + 1 : Nat) : Int) - 1 = (e : Int) := by omega
        by_cases q3 : n = 4
        · refine ⟨.nt c, k2, ?_, hc, by show c.dep + 1 ≤ e + 1 + 1; omega, hk2⟩
          show endI _ (m__law_some_condition (F__law_some_condition_ f) [some (.ref 0), some (.lst ds), some (.int ((e + 1 : Nat) : Int)), none, none] (k :: t)) = _
          simp only [m__law_some_condition, ↓seq_ap, ↓var_ap, ↓c_ap, ↓bin_ap, ↓tst_ap, ↓not_ap, ↓and_ap, ↓or_ap, ↓if_ap, ↓andv_ap, ↓orv_ap, ↓notv_ap, ↓nil_ap, ↓cons_ap, ↓tup_ap, ↓lst_ap, ↓call_ap, ↓callP_ap, ↓callI_ap, ↓perm_ap, ↓nop_ap, ↓smp_ap, ↓sl_ap, ↓chain_ap, ↓isi_ap, ↓lc_ap, ↓lstC_ap, ↓mts_ap, ↓yes_ap, ↓il_ap, ↓it_ap, ↓is_ap, ↓ir1_ap, ↓iz_ap, ↓snil_ap, ↓ret_ap, ↓sif_ap, ↓sexpr_ap, ↓bk_ap, ↓ct_ap, ↓asg_ap, ↓for_ap, ↓par_ap, ↓gname_ap, ↓gnil_ap, ↓gcons_ap, ↓gtup_ap, ↓gsub_ap, bR_ok, bR_ex, rt_some, sq_nx, sq_rt, sq_bk, sq_ct, sq_ex, bS_ok, bS_ex, binK1_ap, binK2_ap, tstK_b, notK_ap, andK_t, andK_f, orK_t, orK_f, ifK_t, ifK_f, andV_t, andV_f, orV_t, orV_f, notV_c, consK1_ap, consK2_ap, tupK_ok, lstK_ok, callK_ap, permK_ap, smP_int, slK1_ap, slK2_ap, slK3_ap, sl_lst, sl_scr, sl_tup, chK1_ap, chK2_ap, chK3_t, chK3_f, chK4_ap, isiK_int, isiK_str, isiK_bl, isiK_non, isiK_tup, isiK_lst, mtsK_str, mtsK2_ap, ilK_lst, ilK_scr, itK_tup, isK_str, izK_l, izK_t, retK_ap, sifK_t, sifK_f, sexprK_ap, asgK_ap, bG_ok, forK_ap, parK_ok, gK_ok, subK1_ok, subK2_ok, add_int, sub_int, mod_int, lt_int, le_int, gt_int, ge_int, eq_int, eq_str, eq_bl, eq_is, eq_si, eq_bs, eq_sb, eq_nn, ne_int, ne_str, ne_bl, isn_ap, isN_int, isN_str, isN_bl, isN_tup, isN_lst, isN_non, ix_lst, ix_tup, ix_scr, len_lst, len_tup, int_int, list_lst, list_tup, tuple_lst, tuple_tup, asB_bl, getD0, getDS, set0, setS, at0, atS, map_some', bind_some', List.length_cons, List.length_nil, List.any_cons, List.any_nil, ↓fld_ap, ↓mei_ap, ↓faug_ap, ↓c1_ap, ↓ir2_ap, ↓sfld_ap, fldK_ap, meiK2_ap, c1K_ap, sfldK_ap, sfldK2_ap, decide_true, decide_false, and_self, Nat.reduceLeDiff, Nat.reduceAdd, if_true, Int.reduceLT, Int.reduceNeg, Int.reducePow, Int.reduceToNat, Int.reduceLE, Nat.reduceLT, Int.reduceAdd, Int.reduceSub, Bool.not_true, Bool.not_false, Int.reduceEq, bne_self_eq_false, Bool.false_bne, Bool.true_bne, Int.reduceBNe, e1, q1, q2, q3, em, e2]
          exact endI_ok rfl (Cd.nt c).noRef
        · obtain ⟨d, k3, e3, hd, hdd, hk3⟩ := some_cond_ok hp hn t f e k2 hk2 (by omega)
          refine ⟨.bin (decide (n = 5)) c d, k3, ?_, by show (c.ok && d.ok) = true; rw [hc, hd]; rfl, by show max c.dep d.dep + 1 ≤ e + 1 + 1; omega, hk3⟩
          show endI _ (m__law_some_condition (F__law_some_condition_ f) [some (.ref 0), some (.lst ds), some (.int ((e + 1 : Nat) : Int)), none, none] (k :: t)) = _
          by_cases q5 : n = 5
          · simp only [m__law_some_condition, ↓seq_ap, ↓var_ap, ↓c_ap, ↓bin_ap, ↓tst_ap, ↓not_ap, ↓and_ap, ↓or_ap, ↓if_ap, ↓andv_ap, ↓orv_ap, ↓notv_ap, ↓nil_ap, ↓cons_ap, ↓tup_ap, ↓lst_ap, ↓call_ap, ↓callP_ap, ↓callI_ap, ↓perm_ap, ↓nop_ap, ↓smp_ap, ↓sl_ap, ↓chain_ap, ↓isi_ap, ↓lc_ap, ↓lstC_ap, ↓mts_ap, ↓yes_ap, ↓il_ap, ↓it_ap, ↓is_ap, ↓ir1_ap, ↓iz_ap, ↓snil_ap, ↓ret_ap, ↓sif_ap, ↓sexpr_ap, ↓bk_ap, ↓ct_ap, ↓asg_ap, ↓for_ap, ↓par_ap, ↓gname_ap, ↓gnil_ap, ↓gcons_ap, ↓gtup_ap, ↓gsub_ap, bR_ok, bR_ex, rt_some, sq_nx, sq_rt, sq_bk, sq_ct, sq_ex, bS_ok, bS_ex, binK1_ap, binK2_ap, tstK_b, notK_ap, andK_t, andK_f, orK_t, orK_f, ifK_t, ifK_f, andV_t, andV_f, orV_t, orV_f, notV_c, consK1_ap, consK2_ap, tupK_ok, lstK_ok, callK_ap, permK_ap, smP_int, slK1_ap, slK2_ap, slK3_ap, sl_lst, sl_scr, sl_tup, chK1_ap, chK2_ap, chK3_t, chK3_f, chK4_ap, isiK_int, isiK_str, isiK_bl, isiK_non, isiK_tup, isiK_lst, mtsK_str, mtsK2_ap, ilK_lst, ilK_scr, itK_tup, isK_str, izK_l, izK_t, retK_ap, sifK_t, sifK_f, sexprK_ap, asgK_ap, bG_ok, forK_ap, parK_ok, gK_ok, subK1_ok, subK2_ok, add_int, sub_int, mod_int, lt_int, le_int, gt_int, ge_int, eq_int, eq_str, eq_bl, eq_is, eq_si, eq_bs, eq_sb, eq_nn, ne_int, ne_str, ne_bl, isn_ap, isN_int, isN_str, isN_bl, isN_tup, isN_lst, isN_non, ix_lst, ix_tup, ix_scr, len_lst, len_tup, int_int, list_lst, list_tup, tuple_lst, tuple_tup, asB_bl, getD0, getDS, set0, setS, at0, atS, map_some', bind_some', List.length_cons, List.length_nil, List.any_cons, List.any_nil, ↓fld_ap, ↓mei_ap, ↓faug_ap, ↓c1_ap, ↓ir2_ap, ↓sfld_ap, fldK_ap, meiK2_ap, c1K_ap, sfldK_ap, sfldK2_ap, decide_true, decide_false, and_self, Nat.reduceLeDiff, Nat.reduceAdd, if_true, Int.reduceLT, Int.reduceNeg, Int.reducePow, Int.reduceToNat, Int.reduceLE, Nat.reduceLT, Int.reduceAdd, Int.reduceSub, Bool.not_true, Bool.not_false, Int.reduceEq, bne_self_eq_false, Bool.false_bne, Bool.true_bne, Int.reduceBNe, e1, q1, q2, q3, q5, em, e2, e3]
            exact endI_ok rfl (Cd.bin true c d).noRef
          · simp only [m__law_some_condition, ↓seq_ap, ↓var_ap, ↓c_ap, ↓bin_ap, ↓tst_ap, ↓not_ap, ↓and_ap, ↓or_ap, ↓if_ap, ↓andv_ap, ↓orv_ap, ↓notv_ap, ↓nil_ap, ↓cons_ap, ↓tup_ap, ↓lst_ap, ↓call_ap, ↓callP_ap, ↓callI_ap, ↓perm_ap, ↓nop_ap, ↓smp_ap, ↓sl_ap, ↓chain_ap, ↓isi_ap, ↓lc_ap, ↓lstC_ap, ↓mts_ap, ↓yes_ap, ↓il_ap, ↓it_ap, ↓is_ap, ↓ir1_ap, ↓iz_ap, ↓snil_ap, ↓ret_ap, ↓sif_ap, ↓sexpr_ap, ↓bk_ap, ↓ct_ap, ↓asg_ap, ↓for_ap, ↓par_ap, ↓gname_ap, ↓gnil_ap, ↓gcons_ap, ↓gtup_ap, ↓gsub_ap, bR_ok, bR_ex, rt_some, sq_nx, sq_rt, sq_bk, sq_ct, sq_ex, bS_ok, bS_ex, binK1_ap, binK2_ap, tstK_b, notK_ap, andK_t, andK_f, orK_t, orK_f, ifK_t, ifK_f, andV_t, andV_f, orV_t, orV_f, notV_c, consK1_ap, consK2_ap, tupK_ok, lstK_ok, callK_ap, permK_ap, smP_int, slK1_ap, slK2_ap, slK3_ap, sl_lst, sl_scr, sl_tup, chK1_ap, chK2_ap, chK3_t, chK3_f, chK4_ap, isiK_int, isiK_str, isiK_bl, isiK_non, isiK_tup, isiK_lst, mtsK_str, mtsK2_ap, ilK_lst, ilK_scr, itK_tup, isK_str, izK_l, izK_t, retK_ap, sifK_t, sifK_f, sexprK_ap, asgK_ap, bG_ok, forK_ap, parK_ok, gK_ok, subK1_ok, subK2_ok, add_int, sub_int, mod_int, lt_int, le_int, gt_int, ge_int, eq_int, eq_str, eq_bl, eq_is, eq_si, eq_bs, eq_sb, eq_nn, ne_int, ne_str, ne_bl, isn_ap, isN_int, isN_str, isN_bl, isN_tup, isN_lst, isN_non, ix_lst, ix_tup, ix_scr, len_lst, len_tup, int_int, list_lst, list_tup, tuple_lst, tuple_tup, asB_bl, getD0, getDS, set0, setS, at0, atS, map_some', bind_some', List.length_cons, List.length_nil, List.any_cons, List.any_nil, ↓fld_ap, ↓mei_ap, ↓faug_ap, ↓c1_ap, ↓ir2_ap, ↓sfld_ap, fldK_ap, meiK2_ap, c1K_ap, sfldK_ap, sfldK2_ap, decide_true, decide_false, and_self, Nat.reduceLeDiff, Nat.reduceAdd, if_true, Int.reduceLT, Int.reduceNeg, Int.reducePow, Int.reduceToNat, Int.reduceLE, Nat.reduceLT, Int.reduceAdd, Int.reduceSub, Bool.not_true, Bool.not_false, Int.reduceEq, bne_self_eq_false, Bool.false_bne, Bool.true_bne, Int.reduceBNe, e1, q1, q2, q3, q5, em, e2, e3]
            exact endI_ok rfl (Cd.bin false c d).noRef
end PV

namespace K05
open PySem PySem.Spec PyProof.Rows L2 PD
def top (i : Nat) : Stmt := PySem.Challenge.pw_lookedrows_k05_texts_of_conditions.main.body.getD i (.Pass ⟨0, 0, 0, 0⟩)
def g_GREATEST : D := (.int 1000000000000000000000000000000)
def g_LETTERS : D := (.str [97, 98, 99, 100, 101, 102, 103, 104, 105, 106, 107, 108, 109, 110, 111, 112, 113, 114, 115, 116, 117, 118, 119, 120, 121, 122])
def g_RESERVED : D := (.tup [(.str [97, 110, 100]), (.str [102, 111, 117, 110, 100]), (.str [107, 101, 121]), (.str [110, 101, 120, 116]), (.str [110, 111, 116]), (.str [111, 114]), (.str [111, 119, 110]), (.str [115, 101, 116]), (.str [116, 114, 117, 101]), (.str [119, 104, 101, 114, 101])])
def g_DIGITS : D := (.str [48, 49, 50, 51, 52, 53, 54, 55, 56, 57])
def g_JOINTS : D := (.tup [(.str [97, 110, 100]), (.str [111, 114])])
def g_MOST_DEPTH : D := (.int 6)
def kv_SIGNS : List (List Nat × D) := [([97, 116, 109, 111, 115, 116], (.str [60, 61])), ([98, 101, 108, 111, 119], (.str [60])), ([115, 97, 109, 101], (.str [61]))]
abbrev s_ConditionReader_init : Stmt := (clsBody (top 32)).getD 0 (.Pass ⟨0, 0, 0, 0⟩)
abbrev s_ConditionReader_comes : Stmt := (clsBody (top 32)).getD 1 (.Pass ⟨0, 0, 0, 0⟩)
abbrev s_ConditionReader_signs : Stmt := (clsBody (top 32)).getD 2 (.Pass ⟨0, 0, 0, 0⟩)
abbrev s_ConditionReader_value : Stmt := (clsBody (top 32)).getD 3 (.Pass ⟨0, 0, 0, 0⟩)
abbrev s_ConditionReader_comparison : Stmt := (clsBody (top 32)).getD 4 (.Pass ⟨0, 0, 0, 0⟩)
abbrev s_ConditionReader_joined : Stmt := (clsBody (top 32)).getD 5 (.Pass ⟨0, 0, 0, 0⟩)
abbrev s_ConditionReader_condition : Stmt := (clsBody (top 32)).getD 6 (.Pass ⟨0, 0, 0, 0⟩)
structure CtxT (K : PySem.W.Frag) (w : World) (mg : Str → Option Value) : Prop where
  d__law_draws : ∃ f fd, FunD K "_law_draws" "_law_draws" (defArgs (top 35)) (defBody (top 35)) (defScope (top 35)) [] [] f fd ∧ mg "_law_draws" = some (.ref f)
  d__law_like : ∃ f fd, FunD K "_law_like" "_law_like" (defArgs (top 38)) (defBody (top 38)) (defScope (top 38)) [] [] f fd ∧ mg "_law_like" = some (.ref f)
  d__law_pull : ∃ f fd, FunD K "_law_pull" "_law_pull" (defArgs (top 36)) (defBody (top 36)) (defScope (top 36)) [] [] f fd ∧ mg "_law_pull" = some (.ref f)
  d__law_any : ∃ f fd, FunD K "_law_any" "_law_any" (defArgs (top 37)) (defBody (top 37)) (defScope (top 37)) [] [] f fd ∧ mg "_law_any" = some (.ref f)
  d__law_reserved : ∃ f fd, FunD K "_law_reserved" "_law_reserved" (defArgs (top 39)) (defBody (top 39)) (defScope (top 39)) [] [] f fd ∧ mg "_law_reserved" = some (.ref f)
  d__law_new_names : ∃ f fd, FunD K "_law_new_names" "_law_new_names" (defArgs (top 40)) (defBody (top 40)) (defScope (top 40)) [] [] f fd ∧ mg "_law_new_names" = some (.ref f)
  d__law_near : ∃ f fd, FunD K "_law_near" "_law_near" (defArgs (top 42)) (defBody (top 42)) (defScope (top 42)) [] [] f fd ∧ mg "_law_near" = some (.ref f)
  d__law_some_value : ∃ f fd, FunD K "_law_some_value" "_law_some_value" (defArgs (top 45)) (defBody (top 45)) (defScope (top 45)) [] [] f fd ∧ mg "_law_some_value" = some (.ref f)
  d__law_some_compared : ∃ f fd, FunD K "_law_some_compared" "_law_some_compared" (defArgs (top 46)) (defBody (top 46)) (defScope (top 46)) [] [] f fd ∧ mg "_law_some_compared" = some (.ref f)
  d__law_some_condition : ∃ f fd, FunD K "_law_some_condition" "_law_some_condition" (defArgs (top 47)) (defBody (top 47)) (defScope (top 47)) [] [] f fd ∧ mg "_law_some_condition" = some (.ref f)
  d__law_value_text : ∃ f fd, FunD K "_law_value_text" "_law_value_text" (defArgs (top 43)) (defBody (top 43)) (defScope (top 43)) [] [] f fd ∧ mg "_law_value_text" = some (.ref f)
  d__law_condition_text : ∃ f fd, FunD K "_law_condition_text" "_law_condition_text" (defArgs (top 44)) (defBody (top 44)) (defScope (top 44)) [] [] f fd ∧ mg "_law_condition_text" = some (.ref f)
  d_ConditionReader_init : ∃ Ca f fd, mg "ConditionReader" = some (.ref Ca) ∧ Cls K Ca ∧ Mk K Ca f ∧ FunD K "__init__" "ConditionReader.__init__" (defArgs s_ConditionReader_init) (defBody s_ConditionReader_init) (defScope s_ConditionReader_init) [] [] f fd
  d_ConditionReader_comes : ∃ Ca f fd, mg "ConditionReader" = some (.ref Ca) ∧ Cls K Ca ∧ Meth K Ca "comes" f ∧ FunD K "comes" "ConditionReader.comes" (defArgs s_ConditionReader_comes) (defBody s_ConditionReader_comes) (defScope s_ConditionReader_comes) [] [] f fd
  d_ConditionReader_signs : ∃ Ca f fd, mg "ConditionReader" = some (.ref Ca) ∧ Cls K Ca ∧ Meth K Ca "signs" f ∧ FunD K "signs" "ConditionReader.signs" (defArgs s_ConditionReader_signs) (defBody s_ConditionReader_signs) (defScope s_ConditionReader_signs) [] [] f fd
  d_is_integer : ∃ f fd, FunD K "is_integer" "is_integer" (defArgs (top 11)) (defBody (top 11)) (defScope (top 11)) [] [] f fd ∧ mg "is_integer" = some (.ref f)
  d_is_constant : ∃ f fd, FunD K "is_constant" "is_constant" (defArgs (top 12)) (defBody (top 12)) (defScope (top 12)) [] [] f fd ∧ mg "is_constant" = some (.ref f)
  d_is_name : ∃ f fd, FunD K "is_name" "is_name" (defArgs (top 10)) (defBody (top 10)) (defScope (top 10)) [] [] f fd ∧ mg "is_name" = some (.ref f)
  d_is_column : ∃ f fd, FunD K "is_column" "is_column" (defArgs (top 13)) (defBody (top 13)) (defScope (top 13)) [] [] f fd ∧ mg "is_column" = some (.ref f)
  d_is_plain : ∃ f fd, FunD K "is_plain" "is_plain" (defArgs (top 14)) (defBody (top 14)) (defScope (top 14)) [] [] f fd ∧ mg "is_plain" = some (.ref f)
  d_integer_in : ∃ f fd, FunD K "integer_in" "integer_in" (defArgs (top 18)) (defBody (top 18)) (defScope (top 18)) [] [("most", .int 31)] f fd ∧ mg "integer_in" = some (.ref f)
  d_plain_in : ∃ f fd, FunD K "plain_in" "plain_in" (defArgs (top 19)) (defBody (top 19)) (defScope (top 19)) [] [] f fd ∧ mg "plain_in" = some (.ref f)
  d_is_value : ∃ f fd, FunD K "is_value" "is_value" (defArgs (top 15)) (defBody (top 15)) (defScope (top 15)) [] [] f fd ∧ mg "is_value" = some (.ref f)
  d_integer_text : ∃ f fd, FunD K "integer_text" "integer_text" (defArgs (top 16)) (defBody (top 16)) (defScope (top 16)) [] [] f fd ∧ mg "integer_text" = some (.ref f)
  d_value_text : ∃ f fd, FunD K "value_text" "value_text" (defArgs (top 17)) (defBody (top 17)) (defScope (top 17)) [] [] f fd ∧ mg "value_text" = some (.ref f)
  d_read_value : ∃ f fd, FunD K "read_value" "read_value" (defArgs (top 20)) (defBody (top 20)) (defScope (top 20)) [] [] f fd ∧ mg "read_value" = some (.ref f)
  d_ConditionReader_value : ∃ Ca f fd, mg "ConditionReader" = some (.ref Ca) ∧ Cls K Ca ∧ Meth K Ca "value" f ∧ FunD K "value" "ConditionReader.value" (defArgs s_ConditionReader_value) (defBody s_ConditionReader_value) (defScope s_ConditionReader_value) [] [] f fd
  d_ConditionReader_comparison : ∃ Ca f fd, mg "ConditionReader" = some (.ref Ca) ∧ Cls K Ca ∧ Meth K Ca "comparison" f ∧ FunD K "comparison" "ConditionReader.comparison" (defArgs s_ConditionReader_comparison) (defBody s_ConditionReader_comparison) (defScope s_ConditionReader_comparison) [] [] f fd
  d_ConditionReader_joined : ∃ Ca f fd, mg "ConditionReader" = some (.ref Ca) ∧ Cls K Ca ∧ Meth K Ca "joined" f ∧ FunD K "joined" "ConditionReader.joined" (defArgs s_ConditionReader_joined) (defBody s_ConditionReader_joined) (defScope s_ConditionReader_joined) [] [] f fd
  d_ConditionReader_condition : ∃ Ca f fd, mg "ConditionReader" = some (.ref Ca) ∧ Cls K Ca ∧ Meth K Ca "condition" f ∧ FunD K "condition" "ConditionReader.condition" (defArgs s_ConditionReader_condition) (defBody s_ConditionReader_condition) (defScope s_ConditionReader_condition) [] [] f fd
  d_inner_parts : ∃ f fd, FunD K "inner_parts" "inner_parts" (defArgs (top 26)) (defBody (top 26)) (defScope (top 26)) [] [] f fd ∧ mg "inner_parts" = some (.ref f)
  d_has_form : ∃ f fd, FunD K "has_form" "has_form" (defArgs (top 25)) (defBody (top 25)) (defScope (top 25)) [] [] f fd ∧ mg "has_form" = some (.ref f)
  d_wrong_path : ∃ f fd, FunD K "wrong_path" "wrong_path" (defArgs (top 27)) (defBody (top 27)) (defScope (top 27)) [] [] f fd ∧ mg "wrong_path" = some (.ref f)
  d_is_condition : ∃ f fd, FunD K "is_condition" "is_condition" (defArgs (top 29)) (defBody (top 29)) (defScope (top 29)) [] [] f fd ∧ mg "is_condition" = some (.ref f)
  d_text_of : ∃ f fd, FunD K "text_of" "text_of" (defArgs (top 30)) (defBody (top 30)) (defScope (top 30)) [] [] f fd ∧ mg "text_of" = some (.ref f)
  d_read_condition : ∃ f fd, FunD K "read_condition" "read_condition" (defArgs (top 33)) (defBody (top 33)) (defScope (top 33)) [] [] f fd ∧ mg "read_condition" = some (.ref f)
  d_check_condition : ∃ f fd, FunD K "check_condition" "check_condition" (defArgs (top 28)) (defBody (top 28)) (defScope (top 28)) [] [] f fd ∧ mg "check_condition" = some (.ref f)
  d_condition_text : ∃ f fd, FunD K "condition_text" "condition_text" (defArgs (top 31)) (defBody (top 31)) (defScope (top 31)) [] [] f fd ∧ mg "condition_text" = some (.ref f)
  d__law_far : ∃ f fd, FunD K "_law_far" "_law_far" (defArgs (top 41)) (defBody (top 41)) (defScope (top 41)) [] [] f fd ∧ mg "_law_far" = some (.ref f)
  d_law : ∃ f fd, FunD K "law" "law" (defArgs (top 48)) (defBody (top 48)) (defScope (top 48)) [] [] f fd ∧ mg "law" = some (.ref f)
  n_list : mg "list" = none
  n_int : mg "int" = none
  n_isinstance : mg "isinstance" = none
  n_str : mg "str" = none
  n_bool : mg "bool" = none
  n_tuple : mg "tuple" = none
  n_zip : mg "zip" = none
  n_all : mg "all" = none
  n_len : mg "len" = none
  n_range : mg "range" = none
  c_GREATEST : GlobC K mg "GREATEST" g_GREATEST
  c_LETTERS : GlobC K mg "LETTERS" g_LETTERS
  c_RESERVED : GlobC K mg "RESERVED" g_RESERVED
  c_DIGITS : GlobC K mg "DIGITS" g_DIGITS
  c_JOINTS : GlobC K mg "JOINTS" g_JOINTS
  c_MOST_DEPTH : GlobC K mg "MOST_DEPTH" g_MOST_DEPTH
  e_SIGNS : DicC K w mg "SIGNS" kv_SIGNS
  a_ConditionReader_spot : ClsF K mg "ConditionReader" "spot"
  a_ConditionReader_source : ClsF K mg "ConditionReader" "source"
section
variable {P : Program} {w : World} {K : PySem.W.Frag} {mg : Str → Option Value} {base : Heap}
abbrev s__law_draws : Stmt := top 35
def N__law_draws : List Str := ["_law_script", "_law_seed", "_law_cell"]
def mb__law_draws_0 : MS :=
    (msAsg (mBin dMod (mCall dInt (mCons (mBin dAdd (mBin dAdd (mBin dMul (mVar 1) (mC (.int 44021))) (mBin dMod (mCall dInt (mCons (mVar 2) mNil)) (mC (.int 2147483489)))) (mC (.int 53))) mNil)) (mC (.int 2147483549))) (mgName 1))
def m__law_draws : MS :=
    (msSeq (msAsg (mC (.int 5648)) (mgName 1))
    (msSeq (msFor (miL (mSl (mVar 0) mNoP (mSmP (mC (.int 63))))) (mgName 2) mb__law_draws_0)
    (msRet (mLstC (mCons (mCall dList (mCons (mSl (mVar 0) mNoP (mSmP (mC (.int 63)))) mNil)) (mCons (mC (.int 0)) (mCons (mC (.int 0)) (mCons (mVar 1) (mCons (mC (.int 0)) mNil)))))))))
theorem sc__law_draws : FnScope N__law_draws ["_law_script"] (defScope s__law_draws) := ⟨rfl, rfl, rfl, by decide +kernel, rfl, by decide +kernel, by decide +kernel⟩
def F__law_draws : IF := runA N__law_draws.length m__law_draws
theorem ok__law_draws (C : CtxT K w mg) : FnI P w K mg base "_law_draws" (1) 1 (F__law_draws) := by
  have sc := sc__law_draws
  obtain ⟨f, fd, Fd, g⟩ := C.d__law_draws
  exact ⟨⟨f, fd, ["_law_script"], g, Fd.kp, Fd.bindsN (fun _ _ _ _ _ _ us hl => match us, hl with | [_], _ => rfl), rfl, fnA Fd sc fun cdv A outer s H E hr => (rss_cons (rs_set 1 sc.nd re_int)
    (rss_cons (rs_for poOf rfl (ri_list (re_slice (re_var 0) ro_none (ro_some re_int))) (rg_name 2 sc.nd) (rss_one (rs_set 1 sc.nd (re_mod (re_intc C.n_int (ra_cons (re_add (re_add (re_mul (re_var 1) re_int) (re_mod (re_intc C.n_int (ra_cons (re_var 2) ra_nil)) re_int)) re_int) ra_nil)) re_int))))
    (rss_one (rs_ret (re_lstC (ra_cons (re_listc C.n_list (ra_cons (re_slice (re_var 0) ro_none (ro_some re_int)) ra_nil)) (ra_cons re_int (ra_cons re_int (ra_cons (re_var 1) (ra_cons re_int ra_nil))))))))))⟩⟩
abbrev s__law_like : Stmt := top 38
def N__law_like : List Str := ["_law_a", "_law_b", "_law_same", "_law_c", "_law_d"]
def m__law_like (F : PF) : MS :=
    (msSeq (msIf (mTst (mIsi [.lst, .tup] (mVar 1))) (msSeq (msAsg (mAndV (mBin dEq (mIsi [.lst] (mVar 0)) (mIsi [.lst] (mVar 1))) (mBin dEq (mIsi [.tup] (mVar 0)) (mIsi [.tup] (mVar 1)))) (mgName 2))
    (msRet (mAndV (mVar 2) (mAndV (mBin dEq (mCall dLen (mCons (mVar 0) mNil)) (mCall dLen (mCons (mVar 1) mNil))) (mCall dAll (mCons (mLc [3, 4] (miZip (mCons (mVar 0) (mCons (mVar 1) mNil))) (mgTup 2 (mgCons (mgName 3) (mgCons (mgName 4) mgNil))) mYes (mCallP F (mCons (mVar 3) (mCons (mVar 4) mNil)))) mNil)))))) msNil)
    (msSeq (msIf (mOr (mTst (mBin (dIsN false) (mVar 0) (mC .non))) (mOr (mTst (mBin (dIsN false) (mVar 1) (mC .non))) (mTst (mBin dNe (mIsi [.bool] (mVar 0)) (mIsi [.bool] (mVar 1)))))) (msRet (mAndV (mBin (dIsN false) (mVar 0) (mC .non)) (mBin (dIsN false) (mVar 1) (mC .non)))) msNil)
    (msRet (mAndV (mBin dEq (mIsi [.int] (mVar 0)) (mIsi [.int] (mVar 1))) (mAndV (mBin dEq (mIsi [.str] (mVar 0)) (mIsi [.str] (mVar 1))) (mBin dEq (mVar 0) (mVar 1)))))))
theorem sc__law_like : FnScope N__law_like ["_law_a", "_law_b"] (defScope s__law_like) := ⟨rfl, rfl, rfl, by decide +kernel, rfl, by decide +kernel, by decide +kernel⟩
def F__law_like_ : Nat → PF
  | 0 => fun _ => none
  | t + 1 => runP N__law_like.length (m__law_like (F__law_like_ t))
def F__law_like : PF := F__law_like_ 30
theorem okr__law_like (C : CtxT K w mg) : ∀ t, FnP P w K mg base "_law_like" (0 + (t)) 2 (F__law_like_ t) := by
  have sc := sc__law_like
  obtain ⟨f, fd, Fd, g⟩ := C.d__law_like
  intro t
  induction t with
  | zero => exact ⟨⟨f, fd, ["_law_a", "_law_b"], g, Fd.kp, Fd.bindsN (fun _ _ _ _ _ _ us hl => match us, hl with | [_, _], _ => rfl), rfl, fnOk0⟩⟩
  | succ t G =>
    have Z : FnP P w K mg base "_law_like" (0 + t + 1) 2 (F__law_like_ (t + 1)) := ⟨⟨f, fd, ["_law_a", "_law_b"], g, Fd.kp, Fd.bindsN (fun _ _ _ _ _ _ us hl => match us, hl with | [_, _], _ => rfl), rfl, fnP Fd sc fun cdv A outer s H E hr => (rss_cons (rs_if (rt_val (re_isi2 .lst .tup C.n_isinstance C.n_list C.n_tuple (re_var 1))) (rss_cons (rs_set 2 sc.nd (re_and (re_eq hr (re_isi .lst C.n_isinstance C.n_list (re_var 0)) (re_isi .lst C.n_isinstance C.n_list (re_var 1))) (re_one (re_eq hr (re_isi .tup C.n_isinstance C.n_tuple (re_var 0)) (re_isi .tup C.n_isinstance C.n_tuple (re_var 1))))))
    (rss_one (rs_ret (re_and (re_var 2) (re_and (re_eq hr (re_len C.n_len (ra_cons (re_var 0) ra_nil)) (re_len C.n_len (ra_cons (re_var 1) ra_nil))) (re_one (re_all rfl C.n_all (ra_cons (re_lc (own := [("_law_c", 3), ("_law_d", 4)]) rfl sc.nd (ri_zip C.n_zip (ra_cons (re_var 0) (ra_cons (re_var 1) ra_nil))) (blkOk_by (N := N__law_like) (sc := defScope s__law_like) (by decide +kernel)) (by decide) (fun _ _ _ _ _ => (rg_tup (n := 2) rfl (rgs_cons (rg_name 3 sc.nd) (rgs_cons (rg_name 4 sc.nd) rgs_nil)))) (fun _ _ _ _ _ => rts_nil) (fun _ _ _ _ _ => (re_callP G hr takes0 (ra_cons (re_var 3) (ra_cons (re_var 4) ra_nil)) (hk := by omega)))) ra_nil)))))))) rss_nil)
    (rss_cons (rs_if (rt_bool (rw_or (rt_is (re_var 0) re_non) (rw_or (rt_is (re_var 1) re_non) (rw_or1 (rt_ne hr (re_isi .bool C.n_isinstance C.n_bool (re_var 0)) (re_isi .bool C.n_isinstance C.n_bool (re_var 1))))))) (rss_one (rs_ret (re_and (re_is (re_var 0) re_non) (re_one (re_is (re_var 1) re_non))))) rss_nil)
    (rss_one (rs_ret (re_and (re_eq hr (re_isi .int C.n_isinstance C.n_int (re_var 0)) (re_isi .int C.n_isinstance C.n_int (re_var 1))) (re_and (re_eq hr (re_isi .str C.n_isinstance C.n_str (re_var 0)) (re_isi .str C.n_isinstance C.n_str (re_var 1))) (re_one (re_eq hr (re_var 0) (re_var 1)))))))))⟩⟩
    exact FnP.mono Z (by omega)
theorem ok__law_like (C : CtxT K w mg) : FnP P w K mg base "_law_like" (31) 2 (F__law_like) := FnP.mono (okr__law_like C 30) (by decide)
abbrev s__law_pull : Stmt := top 36
def N__law_pull : List Str := ["_law_bag", "_law_sides", "_law_seed", "_law_cell", "_law_digit"]
def m__law_pull : MS :=
    (msSeq (msAsg (mBin dAdd (mBin dIx (mVar 0) (mC (.int 4))) (mC (.int 1))) (mgSub (mVar 0) (mC (.int 4))))
    (msSeq (msIf (mAnd (mTst (mBin dEq (mBin dIx (mVar 0) (mC (.int 2))) (mC (.int 0)))) (mTst (mBin dLt (mBin dIx (mVar 0) (mC (.int 1))) (mCall dLen (mCons (mBin dIx (mVar 0) (mC (.int 0))) mNil))))) (msSeq (msAsg (mTup (mCons (mBin dIx (mBin dIx (mVar 0) (mC (.int 0))) (mBin dIx (mVar 0) (mC (.int 1)))) (mCons (mBin dAdd (mBin dIx (mVar 0) (mC (.int 1))) (mC (.int 1))) mNil))) (mgTup 2 (mgCons (mgName 3) (mgCons (mgSub (mVar 0) (mC (.int 1))) mgNil))))
    (msSeq (msIf (mTst (mBin dGe (mVar 3) (mBin dPow (mC (.int 10)) (mC (.int 18))))) (msAsg (mVar 3) (mgSub (mVar 0) (mC (.int 2)))) msNil)
    (msAsg (mBin dMod (mCall dInt (mCons (mBin dAdd (mBin dAdd (mBin dMul (mBin dIx (mVar 0) (mC (.int 3))) (mC (.int 38377))) (mBin dMul (mBin dMod (mCall dInt (mCons (mVar 3) mNil)) (mC (.int 2147483489))) (mC (.int 41143)))) (mC (.int 61))) mNil)) (mC (.int 2147483549))) (mgSub (mVar 0) (mC (.int 3)))))) msNil)
    (msSeq (msIf (mTst (mBin dGt (mBin dIx (mVar 0) (mC (.int 2))) (mC (.int 0)))) (msSeq (msAsg (mTup (mCons (mBin dMod (mCall dInt (mCons (mBin dIx (mVar 0) (mC (.int 2))) mNil)) (mVar 1)) (mCons (mBin dDiv (mBin dIx (mVar 0) (mC (.int 2))) (mVar 1)) mNil))) (mgTup 2 (mgCons (mgName 4) (mgCons (mgSub (mVar 0) (mC (.int 2))) mgNil))))
    (msRet (mVar 4))) msNil)
    (msSeq (msAsg (mBin dIx (mVar 0) (mC (.int 3))) (mgName 2))
    (msSeq (msAsg (mBin dMod (mCall dInt (mCons (mBin dAdd (mBin dAdd (mBin dAdd (mBin dPow (mVar 2) (mC (.int 3))) (mBin dMul (mVar 2) (mC (.int 37813)))) (mBin dMul (mBin dIx (mVar 0) (mC (.int 4))) (mC (.int 1299689)))) (mC (.int 65437))) mNil)) (mC (.int 2147483549))) (mgSub (mVar 0) (mC (.int 3))))
    (msRet (mBin dMod (mCall dInt (mCons (mBin dAdd (mBin dDiv (mBin dIx (mVar 0) (mC (.int 3))) (mC (.int 89))) (mBin dMul (mBin dMod (mCall dInt (mCons (mBin dIx (mVar 0) (mC (.int 3))) mNil)) (mC (.int 7919))) (mC (.int 71)))) mNil)) (mVar 1))))))))
theorem sc__law_pull : FnScope N__law_pull ["_law_bag", "_law_sides"] (defScope s__law_pull) := ⟨rfl, rfl, rfl, by decide +kernel, rfl, by decide +kernel, by decide +kernel⟩
def F__law_pull : IF := runI N__law_pull.length m__law_pull
theorem ok__law_pull (C : CtxT K w mg) : FnI P w K mg base "_law_pull" (1) 2 (F__law_pull) := by
  have sc := sc__law_pull
  obtain ⟨f, fd, Fd, g⟩ := C.d__law_pull
  exact ⟨⟨f, fd, ["_law_bag", "_law_sides"], g, Fd.kp, Fd.bindsN (fun _ _ _ _ _ _ us hl => match us, hl with | [_, _], _ => rfl), rfl, fnI Fd sc fun cdv A outer s H E hr => (rss_cons (rs_asg (re_add (re_ix (re_var 0) re_int) re_int) (rg_sub (W := W0) (re_var 0) re_int))
    (rss_cons (rs_if (rt_bool (rw_and (rt_eq hr (re_ix (re_var 0) re_int) re_int) (rw_and1 (rt_lt (re_ix (re_var 0) re_int) (re_len C.n_len (ra_cons (re_ix (re_var 0) re_int) ra_nil)))))) (rss_cons (rs_asg (re_tup (ra_cons (re_ix (re_ix (re_var 0) re_int) (re_ix (re_var 0) re_int)) (ra_cons (re_add (re_ix (re_var 0) re_int) re_int) ra_nil))) (rg_tup (n := 2) rfl (rgs_cons (rg_name 3 sc.nd) (rgs_cons (rg_sub (W := W0) (re_var 0) re_int) rgs_nil))))
    (rss_cons (rs_if (rt_ge (re_var 3) (re_pow re_int re_int)) (rss_one (rs_asg (re_var 3) (rg_sub (W := W0) (re_var 0) re_int))) rss_nil)
    (rss_one (rs_asg (re_mod (re_intc C.n_int (ra_cons (re_add (re_add (re_mul (re_ix (re_var 0) re_int) re_int) (re_mul (re_mod (re_intc C.n_int (ra_cons (re_var 3) ra_nil)) re_int) re_int)) re_int) ra_nil)) re_int) (rg_sub (W := W0) (re_var 0) re_int))))) rss_nil)
    (rss_cons (rs_if (rt_gt (re_ix (re_var 0) re_int) re_int) (rss_cons (rs_asg (re_tup (ra_cons (re_mod (re_intc C.n_int (ra_cons (re_ix (re_var 0) re_int) ra_nil)) (re_var 1)) (ra_cons (re_div (re_ix (re_var 0) re_int) (re_var 1)) ra_nil))) (rg_tup (n := 2) rfl (rgs_cons (rg_name 4 sc.nd) (rgs_cons (rg_sub (W := W0) (re_var 0) re_int) rgs_nil))))
    (rss_one (rs_ret (re_var 4)))) rss_nil)
    (rss_cons (rs_set 2 sc.nd (re_ix (re_var 0) re_int))
    (rss_cons (rs_asg (re_mod (re_intc C.n_int (ra_cons (re_add (re_add (re_add (re_pow (re_var 2) re_int) (re_mul (re_var 2) re_int)) (re_mul (re_ix (re_var 0) re_int) re_int)) re_int) ra_nil)) re_int) (rg_sub (W := W0) (re_var 0) re_int))
    (rss_one (rs_ret (re_mod (re_intc C.n_int (ra_cons (re_add (re_div (re_ix (re_var 0) re_int) re_int) (re_mul (re_mod (re_intc C.n_int (ra_cons (re_ix (re_var 0) re_int) ra_nil)) re_int) re_int)) ra_nil)) (re_var 1)))))))))⟩⟩
abbrev s__law_any : Stmt := top 37
def N__law_any : List Str := ["_law_bag", "_law_rows"]
def m__law_any : MS :=
    (msRet (mBin dIx (mVar 1) (mCallI F__law_pull (mCons (mVar 0) (mCons (mCall dLen (mCons (mVar 1) mNil)) mNil)))))
theorem sc__law_any : FnScope N__law_any ["_law_bag", "_law_rows"] (defScope s__law_any) := ⟨rfl, rfl, rfl, by decide +kernel, rfl, by decide +kernel, by decide +kernel⟩
def F__law_any : IF := runI N__law_any.length m__law_any
theorem ok__law_any (C : CtxT K w mg) : FnI P w K mg base "_law_any" (2) 2 (F__law_any) := by
  have sc := sc__law_any
  have G__law_pull := ok__law_pull (P := P) (w := w) (base := base) C
  obtain ⟨f, fd, Fd, g⟩ := C.d__law_any
  exact ⟨⟨f, fd, ["_law_bag", "_law_rows"], g, Fd.kp, Fd.bindsN (fun _ _ _ _ _ _ us hl => match us, hl with | [_, _], _ => rfl), rfl, fnI Fd sc fun cdv A outer s H E hr => (rss_one (rs_ret (re_ix (re_var 1) (re_callI G__law_pull hr tkOf (ra_cons (re_var 0) (ra_cons (re_len C.n_len (ra_cons (re_var 1) ra_nil)) ra_nil))))))⟩⟩
abbrev s__law_reserved : Stmt := top 39
def N__law_reserved : List Str := []
def m__law_reserved : MS :=
    (msRet (mLst (mCons (mC (.str [97, 110, 100])) (mCons (mC (.str [102, 111, 117, 110, 100])) (mCons (mC (.str [107, 101, 121])) (mCons (mC (.str [110, 101, 120, 116])) (mCons (mC (.str [110, 111, 116])) (mCons (mC (.str [111, 114])) (mCons (mC (.str [111, 119, 110])) (mCons (mC (.str [115, 101, 116])) (mCons (mC (.str [116, 114, 117, 101])) (mCons (mC (.str [119, 104, 101, 114, 101])) mNil))))))))))))
theorem sc__law_reserved : FnScope N__law_reserved [] (defScope s__law_reserved) := ⟨rfl, rfl, rfl, by decide +kernel, rfl, by decide +kernel, by decide +kernel⟩
def F__law_reserved : PF := runP N__law_reserved.length m__law_reserved
theorem ok__law_reserved (C : CtxT K w mg) : FnP P w K mg base "_law_reserved" (1) 0 (F__law_reserved) := by
  have sc := sc__law_reserved
  obtain ⟨f, fd, Fd, g⟩ := C.d__law_reserved
  exact ⟨⟨f, fd, [], g, Fd.kp, Fd.bindsN (fun _ _ _ _ _ _ us hl => match us, hl with | [], _ => rfl), rfl, fnP Fd sc fun cdv A outer s H E hr => (rss_one (rs_ret (re_lst (ra_cons (re_str [97, 110, 100]) (ra_cons (re_str [102, 111, 117, 110, 100]) (ra_cons (re_str [107, 101, 121]) (ra_cons (re_str [110, 101, 120, 116]) (ra_cons (re_str [110, 111, 116]) (ra_cons (re_str [111, 114]) (ra_cons (re_str [111, 119, 110]) (ra_cons (re_str [115, 101, 116]) (ra_cons (re_str [116, 114, 117, 101]) (ra_cons (re_str [119, 104, 101, 114, 101]) ra_nil)))))))))))))⟩⟩
abbrev s__law_new_names : Stmt := top 40
def N__law_new_names : List Str := ["_law_bag", "_law_many", "_law_abc", "_law_stem", "_law_rows", "_law_at", "_law_first", "_law_k", "_law_row"]
def me__law_new_names_0 : M D :=
    (mIf (mTst (mBin dInA (mVar 8) (mCallP F__law_reserved mNil))) (mBin dAdd (mVar 8) (mC (.str [113]))) (mVar 8))
def me__law_new_names_1 : M D :=
    (mBin dAdd (mBin dAdd (mSl (mVar 3) mNoP (mSmP (mVar 5))) (mBin dIx (mVar 2) (mBin dSub (mBin dAdd (mVar 6) (mVar 7)) (mC (.int 26))))) (mSl (mVar 3) (mSmP (mVar 5)) mNoP))
def m__law_new_names : MS :=
    (msSeq (msAsg (mC (.str [97, 98, 99, 100, 101, 102, 103, 104, 105, 106, 107, 108, 109, 110, 111, 112, 113, 114, 115, 116, 117, 118, 119, 120, 121, 122])) (mgName 2))
    (msSeq (msAsg (mMtS dJoin (mC (.str [])) (mCons (mLc [7] (miR1 (mCons (mCallI F__law_pull (mCons (mVar 0) (mCons (mC (.int 5)) mNil))) mNil)) (mgName 7) mYes (mCallI F__law_any (mCons (mVar 0) (mCons (mVar 2) mNil)))) mNil)) (mgName 3))
    (msSeq (msAsg (mTup (mCons (mCallI F__law_pull (mCons (mVar 0) (mCons (mBin dAdd (mCall dLen (mCons (mVar 3) mNil)) (mC (.int 1))) mNil))) (mCons (mCallI F__law_pull (mCons (mVar 0) (mCons (mC (.int 26)) mNil))) mNil))) (mgTup 2 (mgCons (mgName 5) (mgCons (mgName 6) mgNil))))
    (msSeq (msAsg (mLc [7] (miR1 (mCons (mVar 1) mNil)) (mgName 7) mYes me__law_new_names_1) (mgName 4))
    (msRet (mLc [8] (miL (mVar 4)) (mgName 8) mYes me__law_new_names_0))))))
theorem sc__law_new_names : FnScope N__law_new_names ["_law_bag", "_law_many"] (defScope s__law_new_names) := ⟨rfl, rfl, rfl, by decide +kernel, rfl, by decide +kernel, by decide +kernel⟩
def F__law_new_names : IF := runI N__law_new_names.length m__law_new_names
theorem ok__law_new_names (C : CtxT K w mg) : FnI P w K mg base "_law_new_names" (3) 2 (F__law_new_names) := by
  have sc := sc__law_new_names
  have G__law_any := ok__law_any (P := P) (w := w) (base := base) C
  have G__law_pull := ok__law_pull (P := P) (w := w) (base := base) C
  have G__law_reserved := ok__law_reserved (P := P) (w := w) (base := base) C
  obtain ⟨f, fd, Fd, g⟩ := C.d__law_new_names
  exact ⟨⟨f, fd, ["_law_bag", "_law_many"], g, Fd.kp, Fd.bindsN (fun _ _ _ _ _ _ us hl => match us, hl with | [_, _], _ => rfl), rfl, fnI Fd sc fun cdv A outer s H E hr => (rss_cons (rs_set 2 sc.nd (re_str [97, 98, 99, 100, 101, 102, 103, 104, 105, 106, 107, 108, 109, 110, 111, 112, 113, 114, 115, 116, 117, 118, 119, 120, 121, 122]))
    (rss_cons (rs_set 3 sc.nd (re_join (re_str []) (ra_cons (re_lc (own := [("_law_k", 7)]) rfl sc.nd (ri_range1 C.n_range (ra_cons (re_callI G__law_pull hr tkOf (ra_cons (re_var 0) (ra_cons re_int ra_nil))) ra_nil)) (blkOk_by (N := N__law_new_names) (sc := defScope s__law_new_names) (by decide +kernel)) (by decide) (fun _ _ _ _ _ => (rg_name 7 sc.nd)) (fun _ _ _ _ _ => rts_nil) (fun _ _ _ _ _ => (re_callI G__law_any hr takes0 (ra_cons (re_var 0) (ra_cons (re_var 2) ra_nil))))) ra_nil)))
    (rss_cons (rs_asg (re_tup (ra_cons (re_callI G__law_pull hr tkOf (ra_cons (re_var 0) (ra_cons (re_add (re_len C.n_len (ra_cons (re_var 3) ra_nil)) re_int) ra_nil))) (ra_cons (re_callI G__law_pull hr tkOf (ra_cons (re_var 0) (ra_cons re_int ra_nil))) ra_nil))) (rg_tup (n := 2) rfl (rgs_cons (rg_name 5 sc.nd) (rgs_cons (rg_name 6 sc.nd) rgs_nil))))
    (rss_cons (rs_setLc (own := [("_law_k", 7)]) 4 rfl sc.nd (ri_range1 C.n_range (ra_cons (re_var 1) ra_nil)) (blkOk_by (N := N__law_new_names) (sc := defScope s__law_new_names) (by decide +kernel)) (fun _ _ _ _ _ => (rg_name 7 sc.nd)) (fun _ _ _ _ _ => rts_nil) (fun _ _ _ _ _ => (re_add (re_add (re_slice (re_var 3) ro_none (ro_some (re_var 5))) (re_ix (re_var 2) (re_sub (re_add (re_var 6) (re_var 7)) re_int))) (re_slice (re_var 3) (ro_some (re_var 5)) ro_none))))
    (rss_one (rs_ret (re_lc (own := [("_law_row", 8)]) rfl sc.nd (ri_list (re_var 4)) (blkOk_by (N := N__law_new_names) (sc := defScope s__law_new_names) (by decide +kernel)) (by decide) (fun _ _ _ _ _ => (rg_name 8 sc.nd)) (fun _ _ _ _ _ => rts_nil) (fun _ _ _ _ _ => (re_if (rt_in (re_var 8) (re_callP0 G__law_reserved hr takes0)) (re_add (re_var 8) (re_str [113])) (re_var 8))))))))))⟩⟩
abbrev s__law_near : Stmt := top 42
def N__law_near : List Str := ["_law_bag"]
def m__law_near : MS :=
    (msRet (mCallI F__law_any (mCons (mVar 0) (mCons (mLst (mCons (mC (.int 0)) (mCons (mC (.int 1)) (mCons (mC (.int 1)) (mCons (mC (.int 2)) (mCons (mC (.int 3)) (mCons (mBin dSub (mC (.int 0)) (mC (.int 1))) (mCons (mBin dSub (mC (.int 0)) (mC (.int 2))) mNil)))))))) mNil))))
theorem sc__law_near : FnScope N__law_near ["_law_bag"] (defScope s__law_near) := ⟨rfl, rfl, rfl, by decide +kernel, rfl, by decide +kernel, by decide +kernel⟩
def F__law_near : IF := runI N__law_near.length m__law_near
theorem ok__law_near (C : CtxT K w mg) : FnI P w K mg base "_law_near" (3) 1 (F__law_near) := by
  have sc := sc__law_near
  have G__law_any := ok__law_any (P := P) (w := w) (base := base) C
  obtain ⟨f, fd, Fd, g⟩ := C.d__law_near
  exact ⟨⟨f, fd, ["_law_bag"], g, Fd.kp, Fd.bindsN (fun _ _ _ _ _ _ us hl => match us, hl with | [_], _ => rfl), rfl, fnI Fd sc fun cdv A outer s H E hr => (rss_one (rs_ret (re_callI G__law_any hr tkOf (ra_cons (re_var 0) (ra_cons (re_lst (ra_cons re_int (ra_cons re_int (ra_cons re_int (ra_cons re_int (ra_cons re_int (ra_cons (re_sub re_int re_int) (ra_cons (re_sub re_int re_int) ra_nil)))))))) ra_nil)))))⟩⟩
abbrev s__law_some_value : Stmt := top 45
def N__law_some_value : List Str := ["_law_bag", "_law_pool", "_law_plain"]
def m__law_some_value : MS :=
    (msSeq (msAsg (mCallI F__law_any (mCons (mVar 0) (mCons (mBin dAdd (mVar 1) (mLst (mCons (mTup (mCons (mC (.str [110, 117, 109, 98, 101, 114])) (mCons (mCallI F__law_near (mCons (mVar 0) mNil)) mNil))) mNil))) mNil))) (mgName 2))
    (msRet (mIf (mTst (mBin dEq (mCallI F__law_pull (mCons (mVar 0) (mCons (mC (.int 3)) mNil))) (mC (.int 0)))) (mTup (mCons (mC (.str [112, 108, 117, 115])) (mCons (mVar 2) (mCons (mCallI F__law_near (mCons (mVar 0) mNil)) mNil)))) (mVar 2))))
theorem sc__law_some_value : FnScope N__law_some_value ["_law_bag", "_law_pool"] (defScope s__law_some_value) := ⟨rfl, rfl, rfl, by decide +kernel, rfl, by decide +kernel, by decide +kernel⟩
def F__law_some_value : IF := runI N__law_some_value.length m__law_some_value
theorem ok__law_some_value (C : CtxT K w mg) : FnI P w K mg base "_law_some_value" (4) 2 (F__law_some_value) := by
  have sc := sc__law_some_value
  have G__law_any := ok__law_any (P := P) (w := w) (base := base) C
  have G__law_near := ok__law_near (P := P) (w := w) (base := base) C
  have G__law_pull := ok__law_pull (P := P) (w := w) (base := base) C
  obtain ⟨f, fd, Fd, g⟩ := C.d__law_some_value
  exact ⟨⟨f, fd, ["_law_bag", "_law_pool"], g, Fd.kp, Fd.bindsN (fun _ _ _ _ _ _ us hl => match us, hl with | [_, _], _ => rfl), rfl, fnI Fd sc fun cdv A outer s H E hr => (rss_cons (rs_set 2 sc.nd (re_callI G__law_any hr tkOf (ra_cons (re_var 0) (ra_cons (re_add (re_var 1) (re_lst (ra_cons (re_tup (ra_cons (re_str [110, 117, 109, 98, 101, 114]) (ra_cons (re_callI G__law_near hr tkOf (ra_cons (re_var 0) ra_nil)) ra_nil))) ra_nil))) ra_nil))))
    (rss_one (rs_ret (re_if (rt_eq hr (re_callI G__law_pull hr tkOf (ra_cons (re_var 0) (ra_cons re_int ra_nil))) re_int) (re_tup (ra_cons (re_str [112, 108, 117, 115]) (ra_cons (re_var 2) (ra_cons (re_callI G__law_near hr tkOf (ra_cons (re_var 0) ra_nil)) ra_nil)))) (re_var 2)))))⟩⟩
abbrev s__law_some_compared : Stmt := top 46
def N__law_some_compared : List Str := ["_law_bag", "_law_pool", "_law_one"]
def m__law_some_compared : MS :=
    (msSeq (msAsg (mIf (mTst (mBin dNe (mVar 1) (mLst mNil))) (mCallI F__law_any (mCons (mVar 0) (mCons (mVar 1) mNil))) (mTup (mCons (mC (.str [110, 117, 109, 98, 101, 114])) (mCons (mCallI F__law_near (mCons (mVar 0) mNil)) mNil)))) (mgName 2))
    (msSeq (msIf (mTst (mBin dEq (mCallI F__law_pull (mCons (mVar 0) (mCons (mC (.int 4)) mNil))) (mC (.int 0)))) (msAsg (mTup (mCons (mC (.str [112, 108, 117, 115])) (mCons (mVar 2) (mCons (mCallI F__law_near (mCons (mVar 0) mNil)) mNil)))) (mgName 2)) msNil)
    (msRet (mTup (mCons (mCallI F__law_any (mCons (mVar 0) (mCons (mLst (mCons (mC (.str [97, 116, 109, 111, 115, 116])) (mCons (mC (.str [98, 101, 108, 111, 119])) (mCons (mC (.str [98, 101, 108, 111, 119])) (mCons (mC (.str [115, 97, 109, 101])) mNil))))) mNil))) (mCons (mVar 2) (mCons (mCallI F__law_some_value (mCons (mVar 0) (mCons (mVar 1) mNil))) mNil)))))))
theorem sc__law_some_compared : FnScope N__law_some_compared ["_law_bag", "_law_pool"] (defScope s__law_some_compared) := ⟨rfl, rfl, rfl, by decide +kernel, rfl, by decide +kernel, by decide +kernel⟩
def F__law_some_compared : IF := runI N__law_some_compared.length m__law_some_compared
theorem ok__law_some_compared (C : CtxT K w mg) : FnI P w K mg base "_law_some_compared" (5) 2 (F__law_some_compared) := by
  have sc := sc__law_some_compared
  have G__law_any := ok__law_any (P := P) (w := w) (base := base) C
  have G__law_near := ok__law_near (P := P) (w := w) (base := base) C
  have G__law_pull := ok__law_pull (P := P) (w := w) (base := base) C
  have G__law_some_value := ok__law_some_value (P := P) (w := w) (base := base) C
  obtain ⟨f, fd, Fd, g⟩ := C.d__law_some_compared
  exact ⟨⟨f, fd, ["_law_bag", "_law_pool"], g, Fd.kp, Fd.bindsN (fun _ _ _ _ _ _ us hl => match us, hl with | [_, _], _ => rfl), rfl, fnI Fd sc fun cdv A outer s H E hr => (rss_cons (rs_set 2 sc.nd (re_if (rt_ne hr (re_var 1) (re_lst ra_nil)) (re_callI G__law_any hr tkOf (ra_cons (re_var 0) (ra_cons (re_var 1) ra_nil))) (re_tup (ra_cons (re_str [110, 117, 109, 98, 101, 114]) (ra_cons (re_callI G__law_near hr tkOf (ra_cons (re_var 0) ra_nil)) ra_nil)))))
    (rss_cons (rs_if (rt_eq hr (re_callI G__law_pull hr tkOf (ra_cons (re_var 0) (ra_cons re_int ra_nil))) re_int) (rss_one (rs_set 2 sc.nd (re_tup (ra_cons (re_str [112, 108, 117, 115]) (ra_cons (re_var 2) (ra_cons (re_callI G__law_near hr tkOf (ra_cons (re_var 0) ra_nil)) ra_nil)))))) rss_nil)
    (rss_one (rs_ret (re_tup (ra_cons (re_callI G__law_any hr tkOf (ra_cons (re_var 0) (ra_cons (re_lst (ra_cons (re_str [97, 116, 109, 111, 115, 116]) (ra_cons (re_str [98, 101, 108, 111, 119]) (ra_cons (re_str [98, 101, 108, 111, 119]) (ra_cons (re_str [115, 97, 109, 101]) ra_nil))))) ra_nil))) (ra_cons (re_var 2) (ra_cons (re_callI G__law_some_value hr tkOf (ra_cons (re_var 0) (ra_cons (re_var 1) ra_nil))) ra_nil))))))))⟩⟩
abbrev s__law_some_condition : Stmt := top 47
def N__law_some_condition : List Str := ["_law_bag", "_law_pool", "_law_deep", "_law_way", "_law_word"]
def m__law_some_condition (F : IF) : MS :=
    (msSeq (msAsg (mIf (mTst (mBin dGt (mVar 2) (mC (.int 0)))) (mCallI F__law_pull (mCons (mVar 0) (mCons (mC (.int 7)) mNil))) (mCallI F__law_pull (mCons (mVar 0) (mCons (mC (.int 3)) mNil)))) (mgName 3))
    (msSeq (msIf (mTst (mBin dLt (mVar 3) (mC (.int 1)))) (msRet (mTup (mCons (mC (.str [116, 114, 117, 101])) mNil))) msNil)
    (msSeq (msIf (mTst (mBin dLt (mVar 3) (mC (.int 4)))) (msRet (mCallI F__law_some_compared (mCons (mVar 0) (mCons (mVar 1) mNil)))) msNil)
    (msSeq (msIf (mTst (mBin dEq (mVar 3) (mC (.int 4)))) (msRet (mTup (mCons (mC (.str [110, 111, 116])) (mCons (mCallI F (mCons (mVar 0) (mCons (mVar 1) (mCons (mBin dSub (mVar 2) (mC (.int 1))) mNil)))) mNil)))) msNil)
    (msSeq (msAsg (mIf (mTst (mBin dEq (mVar 3) (mC (.int 5)))) (mC (.str [97, 110, 100])) (mC (.str [111, 114]))) (mgName 4))
    (msRet (mTup (mCons (mVar 4) (mCons (mCallI F (mCons (mVar 0) (mCons (mVar 1) (mCons (mBin dSub (mVar 2) (mC (.int 1))) mNil)))) (mCons (mCallI F (mCons (mVar 0) (mCons (mVar 1) (mCons (mBin dSub (mVar 2) (mC (.int 1))) mNil)))) mNil))))))))))
theorem sc__law_some_condition : FnScope N__law_some_condition ["_law_bag", "_law_pool", "_law_deep"] (defScope s__law_some_condition) := ⟨rfl, rfl, rfl, by decide +kernel, rfl, by decide +kernel, by decide +kernel⟩
def F__law_some_condition_ : Nat → IF
  | 0 => fun _ _ => none
  | t + 1 => runI N__law_some_condition.length (m__law_some_condition (F__law_some_condition_ t))
def F__law_some_condition : IF := F__law_some_condition_ 8
theorem okr__law_some_condition (C : CtxT K w mg) : ∀ t, FnI P w K mg base "_law_some_condition" (5 + (t)) 3 (F__law_some_condition_ t) := by
  have sc := sc__law_some_condition
  have G__law_pull := ok__law_pull (P := P) (w := w) (base := base) C
  have G__law_some_compared := ok__law_some_compared (P := P) (w := w) (base := base) C
  obtain ⟨f, fd, Fd, g⟩ := C.d__law_some_condition
  intro t
  induction t with
  | zero => exact ⟨⟨f, fd, ["_law_bag", "_law_pool", "_law_deep"], g, Fd.kp, Fd.bindsN (fun _ _ _ _ _ _ us hl => match us, hl with | [_, _, _], _ => rfl), rfl, fnOk0I⟩⟩
  | succ t G =>
    have Z : FnI P w K mg base "_law_some_condition" (5 + t + 1) 3 (F__law_some_condition_ (t + 1)) := ⟨⟨f, fd, ["_law_bag", "_law_pool", "_law_deep"], g, Fd.kp, Fd.bindsN (fun _ _ _ _ _ _ us hl => match us, hl with | [_, _, _], _ => rfl), rfl, fnI Fd sc fun cdv A outer s H E hr => (rss_cons (rs_set 3 sc.nd (re_if (rt_gt (re_var 2) re_int) (re_callI G__law_pull hr tkOf (ra_cons (re_var 0) (ra_cons re_int ra_nil)) (hk := by omega)) (re_callI G__law_pull hr tkOf (ra_cons (re_var 0) (ra_cons re_int ra_nil)) (hk := by omega))))
    (rss_cons (rs_if (rt_lt (re_var 3) re_int) (rss_one (rs_ret (re_tup (ra_cons (re_str [116, 114, 117, 101]) ra_nil)))) rss_nil)
    (rss_cons (rs_if (rt_lt (re_var 3) re_int) (rss_one (rs_ret (re_callI G__law_some_compared hr tkOf (ra_cons (re_var 0) (ra_cons (re_var 1) ra_nil)) (hk := by omega)))) rss_nil)
    (rss_cons (rs_if (rt_eq hr (re_var 3) re_int) (rss_one (rs_ret (re_tup (ra_cons (re_str [110, 111, 116]) (ra_cons (re_callI G hr tkOf (ra_cons (re_var 0) (ra_cons (re_var 1) (ra_cons (re_sub (re_var 2) re_int) ra_nil))) (hk := by omega)) ra_nil))))) rss_nil)
    (rss_cons (rs_set 4 sc.nd (re_if (rt_eq hr (re_var 3) re_int) (re_str [97, 110, 100]) (re_str [111, 114])))
    (rss_one (rs_ret (re_tup (ra_cons (re_var 4) (ra_cons (re_callI G hr tkOf (ra_cons (re_var 0) (ra_cons (re_var 1) (ra_cons (re_sub (re_var 2) re_int) ra_nil))) (hk := by omega)) (ra_cons (re_callI G hr tkOf (ra_cons (re_var 0) (ra_cons (re_var 1) (ra_cons (re_sub (re_var 2) re_int) ra_nil))) (hk := by omega)) ra_nil)))))))))))⟩⟩
    exact FnI.mono Z (by omega)
theorem ok__law_some_condition (C : CtxT K w mg) : FnI P w K mg base "_law_some_condition" (14) 3 (F__law_some_condition) := FnI.mono (okr__law_some_condition C 8) (by decide)
abbrev s__law_value_text : Stmt := top 43
def N__law_value_text : List Str := ["_law_value", "_law_more"]
def m__law_value_text (F : PF) : MS :=
    (msSeq (msIf (mTst (mBin dEq (mBin dIx (mVar 0) (mC (.int 0))) (mC (.str [112, 108, 117, 115])))) (msSeq (msAsg (mBin dIx (mVar 0) (mC (.int 2))) (mgName 1))
    (msRet (mBin dAdd (mCallP F (mCons (mBin dIx (mVar 0) (mC (.int 1))) mNil)) (mIf (mTst (mBin dLt (mVar 1) (mC (.int 0)))) (mBin dAdd (mC (.str [32, 45, 32])) (mCall dStr (mCons (mBin dSub (mC (.int 0)) (mVar 1)) mNil))) (mBin dAdd (mC (.str [32, 43, 32])) (mCall dStr (mCons (mVar 1) mNil))))))) msNil)
    (msSeq (msIf (mTst (mBin dEq (mBin dIx (mVar 0) (mC (.int 0))) (mC (.str [102, 105, 101, 108, 100])))) (msRet (mBin dAdd (mBin dAdd (mBin dIx (mVar 0) (mC (.int 1))) (mC (.str [46]))) (mBin dIx (mVar 0) (mC (.int 2))))) msNil)
    (msSeq (msIf (mTst (mBin dInA (mBin dIx (mVar 0) (mC (.int 0))) (mTup (mCons (mC (.str [111, 119, 110])) (mCons (mC (.str [110, 101, 120, 116])) mNil))))) (msRet (mBin dAdd (mBin dAdd (mBin dIx (mVar 0) (mC (.int 0))) (mC (.str [46]))) (mBin dIx (mVar 0) (mC (.int 1))))) msNil)
    (msRet (mCall dStr (mCons (mBin dIx (mVar 0) (mC (.int 1))) mNil))))))
theorem sc__law_value_text : FnScope N__law_value_text ["_law_value"] (defScope s__law_value_text) := ⟨rfl, rfl, rfl, by decide +kernel, rfl, by decide +kernel, by decide +kernel⟩
def F__law_value_text_ : Nat → PF
  | 0 => fun _ => none
  | t + 1 => runP N__law_value_text.length (m__law_value_text (F__law_value_text_ t))
def F__law_value_text : PF := F__law_value_text_ 3
theorem okr__law_value_text (C : CtxT K w mg) : ∀ t, FnP P w K mg base "_law_value_text" (0 + (t)) 1 (F__law_value_text_ t) := by
  have sc := sc__law_value_text
  obtain ⟨f, fd, Fd, g⟩ := C.d__law_value_text
  intro t
  induction t with
  | zero => exact ⟨⟨f, fd, ["_law_value"], g, Fd.kp, Fd.bindsN (fun _ _ _ _ _ _ us hl => match us, hl with | [_], _ => rfl), rfl, fnOk0⟩⟩
  | succ t G =>
    have Z : FnP P w K mg base "_law_value_text" (0 + t + 1) 1 (F__law_value_text_ (t + 1)) := ⟨⟨f, fd, ["_law_value"], g, Fd.kp, Fd.bindsN (fun _ _ _ _ _ _ us hl => match us, hl with | [_], _ => rfl), rfl, fnP Fd sc fun cdv A outer s H E hr => (rss_cons (rs_if (rt_eq hr (re_ix (re_var 0) re_int) (re_str [112, 108, 117, 115])) (rss_cons (rs_set 1 sc.nd (re_ix (re_var 0) re_int))
    (rss_one (rs_ret (re_add (re_callP G hr tkOf (ra_cons (re_ix (re_var 0) re_int) ra_nil) (hk := by omega)) (re_if (rt_lt (re_var 1) re_int) (re_add (re_str [32, 45, 32]) (re_strc C.n_str (ra_cons (re_sub re_int (re_var 1)) ra_nil))) (re_add (re_str [32, 43, 32]) (re_strc C.n_str (ra_cons (re_var 1) ra_nil)))))))) rss_nil)
    (rss_cons (rs_if (rt_eq hr (re_ix (re_var 0) re_int) (re_str [102, 105, 101, 108, 100])) (rss_one (rs_ret (re_add (re_add (re_ix (re_var 0) re_int) (re_str [46])) (re_ix (re_var 0) re_int)))) rss_nil)
    (rss_cons (rs_if (rt_in (re_ix (re_var 0) re_int) (re_tup (ra_cons (re_str [111, 119, 110]) (ra_cons (re_str [110, 101, 120, 116]) ra_nil)))) (rss_one (rs_ret (re_add (re_add (re_ix (re_var 0) re_int) (re_str [46])) (re_ix (re_var 0) re_int)))) rss_nil)
    (rss_one (rs_ret (re_strc C.n_str (ra_cons (re_ix (re_var 0) re_int) ra_nil)))))))⟩⟩
    exact FnP.mono Z (by omega)
theorem ok__law_value_text (C : CtxT K w mg) : FnP P w K mg base "_law_value_text" (4) 1 (F__law_value_text) := FnP.mono (okr__law_value_text C 3) (by decide)
abbrev s__law_condition_text : Stmt := top 44
def N__law_condition_text : List Str := ["_law_c", "_law_word", "_law_sign"]
def m__law_condition_text (F : PF) : MS :=
    (msSeq (msAsg (mBin dIx (mVar 0) (mC (.int 0))) (mgName 1))
    (msSeq (msIf (mTst (mBin dInA (mVar 1) (mTup (mCons (mC (.str [97, 110, 100])) (mCons (mC (.str [111, 114])) mNil))))) (msRet (mBin dAdd (mBin dAdd (mBin dAdd (mBin dAdd (mBin dAdd (mBin dAdd (mC (.str [40])) (mCallP F (mCons (mBin dIx (mVar 0) (mC (.int 1))) mNil))) (mC (.str [32]))) (mVar 1)) (mC (.str [32]))) (mCallP F (mCons (mBin dIx (mVar 0) (mC (.int 2))) mNil))) (mC (.str [41])))) msNil)
    (msSeq (msIf (mTst (mBin dEq (mVar 1) (mC (.str [110, 111, 116])))) (msRet (mBin dAdd (mC (.str [110, 111, 116, 32])) (mCallP F (mCons (mBin dIx (mVar 0) (mC (.int 1))) mNil)))) msNil)
    (msSeq (msIf (mTst (mBin dEq (mVar 1) (mC (.str [102, 111, 117, 110, 100])))) (msRet (mBin dAdd (mC (.str [102, 111, 117, 110, 100, 32])) (mBin dIx (mVar 0) (mC (.int 1))))) msNil)
    (msSeq (msAsg (mDisp [((mC (.str [97, 116, 109, 111, 115, 116])), (mC (.str [32, 60, 61, 32]))), ((mC (.str [98, 101, 108, 111, 119])), (mC (.str [32, 60, 32]))), ((mC (.str [115, 97, 109, 101])), (mC (.str [32, 61, 32])))]) (mgName 2))
    (msRet (mIf (mTst (mBin dEq (mVar 1) (mC (.str [116, 114, 117, 101])))) (mC (.str [116, 114, 117, 101])) (mBin dAdd (mBin dAdd (mCallP F__law_value_text (mCons (mBin dIx (mVar 0) (mC (.int 1))) mNil)) (mBin dDIx (mVar 2) (mVar 1))) (mCallP F__law_value_text (mCons (mBin dIx (mVar 0) (mC (.int 2))) mNil))))))))))
theorem sc__law_condition_text : FnScope N__law_condition_text ["_law_c"] (defScope s__law_condition_text) := ⟨rfl, rfl, rfl, by decide +kernel, rfl, by decide +kernel, by decide +kernel⟩
def F__law_condition_text_ : Nat → PF
  | 0 => fun _ => none
  | t + 1 => runP N__law_condition_text.length (m__law_condition_text (F__law_condition_text_ t))
def F__law_condition_text : PF := F__law_condition_text_ 12
theorem okr__law_condition_text (C : CtxT K w mg) : ∀ t, FnP P w K mg base "_law_condition_text" (4 + (t)) 1 (F__law_condition_text_ t) := by
  have sc := sc__law_condition_text
  have G__law_value_text := ok__law_value_text (P := P) (w := w) (base := base) C
  obtain ⟨f, fd, Fd, g⟩ := C.d__law_condition_text
  intro t
  induction t with
  | zero => exact ⟨⟨f, fd, ["_law_c"], g, Fd.kp, Fd.bindsN (fun _ _ _ _ _ _ us hl => match us, hl with | [_], _ => rfl), rfl, fnOk0⟩⟩
  | succ t G =>
    have Z : FnP P w K mg base "_law_condition_text" (4 + t + 1) 1 (F__law_condition_text_ (t + 1)) := ⟨⟨f, fd, ["_law_c"], g, Fd.kp, Fd.bindsN (fun _ _ _ _ _ _ us hl => match us, hl with | [_], _ => rfl), rfl, fnP Fd sc fun cdv A outer s H E hr => (rss_cons (rs_set 1 sc.nd (re_ix (re_var 0) re_int))
    (rss_cons (rs_if (rt_in (re_var 1) (re_tup (ra_cons (re_str [97, 110, 100]) (ra_cons (re_str [111, 114]) ra_nil)))) (rss_one (rs_ret (re_add (re_add (re_add (re_add (re_add (re_add (re_str [40]) (re_callP G hr tkOf (ra_cons (re_ix (re_var 0) re_int) ra_nil) (hk := by omega))) (re_str [32])) (re_var 1)) (re_str [32])) (re_callP G hr tkOf (ra_cons (re_ix (re_var 0) re_int) ra_nil) (hk := by omega))) (re_str [41])))) rss_nil)
    (rss_cons (rs_if (rt_eq hr (re_var 1) (re_str [110, 111, 116])) (rss_one (rs_ret (re_add (re_str [110, 111, 116, 32]) (re_callP G hr tkOf (ra_cons (re_ix (re_var 0) re_int) ra_nil) (hk := by omega))))) rss_nil)
    (rss_cons (rs_if (rt_eq hr (re_var 1) (re_str [102, 111, 117, 110, 100])) (rss_one (rs_ret (re_add (re_str [102, 111, 117, 110, 100, 32]) (re_ix (re_var 0) re_int)))) rss_nil)
    (rss_cons (rs_set 2 sc.nd (re_disp (RPs.cons (re_str [97, 116, 109, 111, 115, 116]) (re_str [32, 60, 61, 32]) (RPs.cons (re_str [98, 101, 108, 111, 119]) (re_str [32, 60, 32]) (RPs.cons (re_str [115, 97, 109, 101]) (re_str [32, 61, 32]) RPs.nil)))))
    (rss_one (rs_ret (re_if (rt_eq hr (re_var 1) (re_str [116, 114, 117, 101])) (re_str [116, 114, 117, 101]) (re_add (re_add (re_callP G__law_value_text hr tkOf (ra_cons (re_ix (re_var 0) re_int) ra_nil) (hk := by omega)) (re_dix hr (re_var 2) (re_var 1))) (re_callP G__law_value_text hr tkOf (ra_cons (re_ix (re_var 0) re_int) ra_nil) (hk := by omega)))))))))))⟩⟩
    exact FnP.mono Z (by omega)
theorem ok__law_condition_text (C : CtxT K w mg) : FnP P w K mg base "_law_condition_text" (17) 1 (F__law_condition_text) := FnP.mono (okr__law_condition_text C 12) (by decide)
def N_ConditionReader_init : List Str := ["self", "text"]
def m_ConditionReader_init : MS :=
    (msSeq (msFld ["ConditionReader"] "source" (mVar 0) (mVar 1))
    (msFld ["ConditionReader"] "spot" (mVar 0) (mC (.int 0))))
theorem sc_ConditionReader_init : FnScope N_ConditionReader_init ["self", "text"] (defScope s_ConditionReader_init) := ⟨rfl, rfl, rfl, by decide +kernel, rfl, by decide +kernel, by decide +kernel⟩
def F_ConditionReader_init : IF := runI N_ConditionReader_init.length m_ConditionReader_init
theorem ok_ConditionReader_init (C : CtxT K w mg) : MkI P w K mg base "ConditionReader" (1) 1 [] (F_ConditionReader_init) := by
  have sc := sc_ConditionReader_init
  obtain ⟨Ca, f, fd, h1, h0, h2, Fd⟩ := C.d_ConditionReader_init
  exact ⟨⟨Ca, f, fd, ["self", "text"], [], [], h1, h2, Fd.bindsN (fun _ _ _ _ _ _ us hl => match us, hl with | [_, _], _ => rfl), .nil, fun _ _ _ => .nil, rfl, fnI Fd sc fun cdv A outer s H E hr => (rss_cons (rs_fld (ClsFs.cons C.a_ConditionReader_source ClsFs.nil) (re_var 0) (re_var 1))
    (rss_one (rs_fld (ClsFs.cons C.a_ConditionReader_spot ClsFs.nil) (re_var 0) re_int)))⟩⟩
def N_ConditionReader_comes : List Str := ["self", "word"]
def m_ConditionReader_comes : MS :=
    (msSeq (msIf (mNot (mTst (mMtS dStw3 (mFld ["ConditionReader"] "source" (mVar 0)) (mCons (mVar 1) (mCons (mFld ["ConditionReader"] "spot" (mVar 0)) mNil))))) (msRet (mC (.bl false))) msNil)
    (msSeq (msFAug ["ConditionReader"] "spot" (mVar 0) (mCall dLen (mCons (mVar 1) mNil)))
    (msRet (mC (.bl true)))))
theorem sc_ConditionReader_comes : FnScope N_ConditionReader_comes ["self", "word"] (defScope s_ConditionReader_comes) := ⟨rfl, rfl, rfl, by decide +kernel, rfl, by decide +kernel, by decide +kernel⟩
def F_ConditionReader_comes : IF := runI N_ConditionReader_comes.length m_ConditionReader_comes
theorem ok_ConditionReader_comes (C : CtxT K w mg) : MetI P w K mg base "ConditionReader" "comes" (1) 2 (F_ConditionReader_comes) := by
  have sc := sc_ConditionReader_comes
  obtain ⟨Ca, f, fd, h1, h0, h2, Fd⟩ := C.d_ConditionReader_comes
  exact ⟨⟨Ca, f, fd, ["self", "word"], h1, h0, h2, Fd.bindsN (fun _ _ _ _ _ _ us hl => match us, hl with | [_, _], _ => rfl), rfl, fnI Fd sc fun cdv A outer s H E hr => (rss_cons (rs_if (rt_not (rt_val (re_stw3 (re_fld (ClsFs.cons C.a_ConditionReader_source ClsFs.nil) (re_var 0)) (ra_cons (re_var 1) (ra_cons (re_fld (ClsFs.cons C.a_ConditionReader_spot ClsFs.nil) (re_var 0)) ra_nil))))) (rss_one (rs_ret re_bl)) rss_nil)
    (rss_cons (rs_faug (ClsFs.cons C.a_ConditionReader_spot ClsFs.nil) (re_var 0) (re_len C.n_len (ra_cons (re_var 1) ra_nil)))
    (rss_one (rs_ret re_bl))))⟩⟩
def N_ConditionReader_signs : List Str := ["self", "begin"]
def mt_ConditionReader_signs_0 : M Bool :=
    (mAnd (mTst (mBin dLt (mFld ["ConditionReader"] "spot" (mVar 0)) (mCall dLen (mCons (mFld ["ConditionReader"] "source" (mVar 0)) mNil)))) (mTst (mBin dNinA (mBin dIx (mFld ["ConditionReader"] "source" (mVar 0)) (mFld ["ConditionReader"] "spot" (mVar 0))) (mC (.str [32, 40, 41])))))
def m_ConditionReader_signs : MS :=
    (msSeq (msAsg (mFld ["ConditionReader"] "spot" (mVar 0)) (mgName 1))
    (msSeq (msWh 8192 mt_ConditionReader_signs_0 (msFAug ["ConditionReader"] "spot" (mVar 0) (mC (.int 1))))
    (msRet (mSl (mFld ["ConditionReader"] "source" (mVar 0)) (mSmP (mVar 1)) (mSmP (mFld ["ConditionReader"] "spot" (mVar 0)))))))
theorem sc_ConditionReader_signs : FnScope N_ConditionReader_signs ["self"] (defScope s_ConditionReader_signs) := ⟨rfl, rfl, rfl, by decide +kernel, rfl, by decide +kernel, by decide +kernel⟩
def F_ConditionReader_signs : IF := runI N_ConditionReader_signs.length m_ConditionReader_signs
theorem ok_ConditionReader_signs (C : CtxT K w mg) : MetI P w K mg base "ConditionReader" "signs" (1) 1 (F_ConditionReader_signs) := by
  have sc := sc_ConditionReader_signs
  obtain ⟨Ca, f, fd, h1, h0, h2, Fd⟩ := C.d_ConditionReader_signs
  exact ⟨⟨Ca, f, fd, ["self"], h1, h0, h2, Fd.bindsN (fun _ _ _ _ _ _ us hl => match us, hl with | [_], _ => rfl), rfl, fnI Fd sc fun cdv A outer s H E hr => (rss_cons (rs_set 1 sc.nd (re_fld (ClsFs.cons C.a_ConditionReader_spot ClsFs.nil) (re_var 0)))
    (rss_cons (rs_while 8192 poOf (rt_bool (rw_and (rt_lt (re_fld (ClsFs.cons C.a_ConditionReader_spot ClsFs.nil) (re_var 0)) (re_len C.n_len (ra_cons (re_fld (ClsFs.cons C.a_ConditionReader_source ClsFs.nil) (re_var 0)) ra_nil))) (rw_and1 (rt_nin (re_ix (re_fld (ClsFs.cons C.a_ConditionReader_source ClsFs.nil) (re_var 0)) (re_fld (ClsFs.cons C.a_ConditionReader_spot ClsFs.nil) (re_var 0))) (re_str [32, 40, 41]))))) (rss_one (rs_faug (ClsFs.cons C.a_ConditionReader_spot ClsFs.nil) (re_var 0) re_int)))
    (rss_one (rs_ret (re_slice (re_fld (ClsFs.cons C.a_ConditionReader_source ClsFs.nil) (re_var 0)) (ro_some (re_var 1)) (ro_some (re_fld (ClsFs.cons C.a_ConditionReader_spot ClsFs.nil) (re_var 0))))))))⟩⟩
abbrev s_is_integer : Stmt := top 11
def N_is_integer : List Str := ["value"]
def m_is_integer : MS :=
    (msRet (mAndV (mIsi [.int] (mVar 0)) (mNotV (mIsi [.bool] (mVar 0)))))
theorem sc_is_integer : FnScope N_is_integer ["value"] (defScope s_is_integer) := ⟨rfl, rfl, rfl, by decide +kernel, rfl, by decide +kernel, by decide +kernel⟩
def F_is_integer : PF := runP N_is_integer.length m_is_integer
theorem ok_is_integer (C : CtxT K w mg) : FnP P w K mg base "is_integer" (1) 1 (F_is_integer) := by
  have sc := sc_is_integer
  obtain ⟨f, fd, Fd, g⟩ := C.d_is_integer
  exact ⟨⟨f, fd, ["value"], g, Fd.kp, Fd.bindsN (fun _ _ _ _ _ _ us hl => match us, hl with | [_], _ => rfl), rfl, fnP Fd sc fun cdv A outer s H E hr => (rss_one (rs_ret (re_and (re_isi .int C.n_isinstance C.n_int (re_var 0)) (re_one (re_not (re_isi .bool C.n_isinstance C.n_bool (re_var 0)))))))⟩⟩
abbrev s_is_constant : Stmt := top 12
def N_is_constant : List Str := ["value"]
def m_is_constant : MS :=
    (msRet (mAndV (mCallP F_is_integer (mCons (mVar 0) mNil)) (mChain dLe dLe (mBin dSub (mC (.int 0)) (mC g_GREATEST)) (mVar 0) (mC g_GREATEST))))
theorem sc_is_constant : FnScope N_is_constant ["value"] (defScope s_is_constant) := ⟨rfl, rfl, rfl, by decide +kernel, rfl, by decide +kernel, by decide +kernel⟩
def F_is_constant : PF := runP N_is_constant.length m_is_constant
theorem ok_is_constant (C : CtxT K w mg) : FnP P w K mg base "is_constant" (2) 1 (F_is_constant) := by
  have sc := sc_is_constant
  have G_is_integer := ok_is_integer (P := P) (w := w) (base := base) C
  obtain ⟨f, fd, Fd, g⟩ := C.d_is_constant
  exact ⟨⟨f, fd, ["value"], g, Fd.kp, Fd.bindsN (fun _ _ _ _ _ _ us hl => match us, hl with | [_], _ => rfl), rfl, fnP Fd sc fun cdv A outer s H E hr => (rss_one (rs_ret (re_and (re_callP G_is_integer hr tkOf (ra_cons (re_var 0) ra_nil)) (re_one (re_lele (re_sub re_int (re_glob C.c_GREATEST)) (re_var 0) (re_glob C.c_GREATEST))))))⟩⟩
abbrev s_is_name : Stmt := top 10
def N_is_name : List Str := ["value", "letter"]
def m_is_name : MS :=
    (msSeq (msIf (mOr (mNot (mTst (mIsi [.str] (mVar 0)))) (mOr (mNot (mTst (mChain dLe dLe (mC (.int 1)) (mCall dLen (mCons (mVar 0) mNil)) (mC (.int 6))))) (mTst (mBin dInA (mVar 0) (mC g_RESERVED))))) (msRet (mC (.bl false))) msNil)
    (msRet (mCall dAll (mCons (mLc [1] (miS (mVar 0)) (mgName 1) mYes (mBin dInA (mVar 1) (mC g_LETTERS))) mNil))))
theorem sc_is_name : FnScope N_is_name ["value"] (defScope s_is_name) := ⟨rfl, rfl, rfl, by decide +kernel, rfl, by decide +kernel, by decide +kernel⟩
def F_is_name : PF := runP N_is_name.length m_is_name
theorem ok_is_name (C : CtxT K w mg) : FnP P w K mg base "is_name" (1) 1 (F_is_name) := by
  have sc := sc_is_name
  obtain ⟨f, fd, Fd, g⟩ := C.d_is_name
  exact ⟨⟨f, fd, ["value"], g, Fd.kp, Fd.bindsN (fun _ _ _ _ _ _ us hl => match us, hl with | [_], _ => rfl), rfl, fnP Fd sc fun cdv A outer s H E hr => (rss_cons (rs_if (rt_bool (rw_or (rt_not (rt_val (re_isi .str C.n_isinstance C.n_str (re_var 0)))) (rw_or (rt_not (rt_lele re_int (re_len C.n_len (ra_cons (re_var 0) ra_nil)) re_int)) (rw_or1 (rt_in (re_var 0) (re_glob C.c_RESERVED)))))) (rss_one (rs_ret re_bl)) rss_nil)
    (rss_one (rs_ret (re_all rfl C.n_all (ra_cons (re_lc (own := [("letter", 1)]) rfl sc.nd (ri_str (re_var 0)) (blkOk_by (N := N_is_name) (sc := defScope s_is_name) (by decide +kernel)) (by decide) (fun _ _ _ _ _ => (rg_name 1 sc.nd)) (fun _ _ _ _ _ => rts_nil) (fun _ _ _ _ _ => (re_in (re_var 1) (re_glob C.c_LETTERS)))) ra_nil)))))⟩⟩
abbrev s_is_column : Stmt := top 13
def N_is_column : List Str := ["value"]
def m_is_column : MS :=
    (msRet (mAndV (mIsi [.str] (mVar 0)) (mOrV (mBin dEq (mVar 0) (mC (.str [107, 101, 121]))) (mCallP F_is_name (mCons (mVar 0) mNil)))))
theorem sc_is_column : FnScope N_is_column ["value"] (defScope s_is_column) := ⟨rfl, rfl, rfl, by decide +kernel, rfl, by decide +kernel, by decide +kernel⟩
def F_is_column : PF := runP N_is_column.length m_is_column
theorem ok_is_column (C : CtxT K w mg) : FnP P w K mg base "is_column" (2) 1 (F_is_column) := by
  have sc := sc_is_column
  have G_is_name := ok_is_name (P := P) (w := w) (base := base) C
  obtain ⟨f, fd, Fd, g⟩ := C.d_is_column
  exact ⟨⟨f, fd, ["value"], g, Fd.kp, Fd.bindsN (fun _ _ _ _ _ _ us hl => match us, hl with | [_], _ => rfl), rfl, fnP Fd sc fun cdv A outer s H E hr => (rss_one (rs_ret (re_and (re_isi .str C.n_isinstance C.n_str (re_var 0)) (re_one (re_or (re_eq hr (re_var 0) (re_str [107, 101, 121])) (re_one (re_callP G_is_name hr tkOf (ra_cons (re_var 0) ra_nil))))))))⟩⟩
abbrev s_is_plain : Stmt := top 14
def N_is_plain : List Str := ["value"]
def m_is_plain : MS :=
    (msSeq (msIf (mOr (mNot (mTst (mIsi [.tup] (mVar 0)))) (mOr (mTst (mBin dLt (mCall dLen (mCons (mVar 0) mNil)) (mC (.int 2)))) (mNot (mTst (mIsi [.str] (mBin dIx (mVar 0) (mC (.int 0)))))))) (msRet (mC (.bl false))) msNil)
    (msSeq (msIf (mTst (mBin dEq (mBin dIx (mVar 0) (mC (.int 0))) (mC (.str [102, 105, 101, 108, 100])))) (msRet (mAndV (mBin dEq (mCall dLen (mCons (mVar 0) mNil)) (mC (.int 3))) (mAndV (mCallP F_is_name (mCons (mBin dIx (mVar 0) (mC (.int 1))) mNil)) (mCallP F_is_column (mCons (mBin dIx (mVar 0) (mC (.int 2))) mNil))))) msNil)
    (msSeq (msIf (mTst (mBin dNe (mCall dLen (mCons (mVar 0) mNil)) (mC (.int 2)))) (msRet (mC (.bl false))) msNil)
    (msSeq (msIf (mTst (mBin dEq (mBin dIx (mVar 0) (mC (.int 0))) (mC (.str [110, 117, 109, 98, 101, 114])))) (msRet (mCallP F_is_constant (mCons (mBin dIx (mVar 0) (mC (.int 1))) mNil))) msNil)
    (msSeq (msIf (mTst (mBin dEq (mBin dIx (mVar 0) (mC (.int 0))) (mC (.str [110, 97, 109, 101])))) (msRet (mCallP F_is_name (mCons (mBin dIx (mVar 0) (mC (.int 1))) mNil))) msNil)
    (msRet (mAndV (mBin dInA (mBin dIx (mVar 0) (mC (.int 0))) (mTup (mCons (mC (.str [111, 119, 110])) (mCons (mC (.str [110, 101, 120, 116])) mNil)))) (mCallP F_is_column (mCons (mBin dIx (mVar 0) (mC (.int 1))) mNil)))))))))
theorem sc_is_plain : FnScope N_is_plain ["value"] (defScope s_is_plain) := ⟨rfl, rfl, rfl, by decide +kernel, rfl, by decide +kernel, by decide +kernel⟩
def F_is_plain : PF := runP N_is_plain.length m_is_plain
theorem ok_is_plain (C : CtxT K w mg) : FnP P w K mg base "is_plain" (3) 1 (F_is_plain) := by
  have sc := sc_is_plain
  have G_is_column := ok_is_column (P := P) (w := w) (base := base) C
  have G_is_constant := ok_is_constant (P := P) (w := w) (base := base) C
  have G_is_name := ok_is_name (P := P) (w := w) (base := base) C
  obtain ⟨f, fd, Fd, g⟩ := C.d_is_plain
  exact ⟨⟨f, fd, ["value"], g, Fd.kp, Fd.bindsN (fun _ _ _ _ _ _ us hl => match us, hl with | [_], _ => rfl), rfl, fnP Fd sc fun cdv A outer s H E hr => (rss_cons (rs_if (rt_bool (rw_or (rt_not (rt_val (re_isi .tup C.n_isinstance C.n_tuple (re_var 0)))) (rw_or (rt_lt (re_len C.n_len (ra_cons (re_var 0) ra_nil)) re_int) (rw_or1 (rt_not (rt_val (re_isi .str C.n_isinstance C.n_str (re_ix (re_var 0) re_int)))))))) (rss_one (rs_ret re_bl)) rss_nil)
    (rss_cons (rs_if (rt_eq hr (re_ix (re_var 0) re_int) (re_str [102, 105, 101, 108, 100])) (rss_one (rs_ret (re_and (re_eq hr (re_len C.n_len (ra_cons (re_var 0) ra_nil)) re_int) (re_and (re_callP G_is_name hr tkOf (ra_cons (re_ix (re_var 0) re_int) ra_nil)) (re_one (re_callP G_is_column hr tkOf (ra_cons (re_ix (re_var 0) re_int) ra_nil))))))) rss_nil)
    (rss_cons (rs_if (rt_ne hr (re_len C.n_len (ra_cons (re_var 0) ra_nil)) re_int) (rss_one (rs_ret re_bl)) rss_nil)
    (rss_cons (rs_if (rt_eq hr (re_ix (re_var 0) re_int) (re_str [110, 117, 109, 98, 101, 114])) (rss_one (rs_ret (re_callP G_is_constant hr tkOf (ra_cons (re_ix (re_var 0) re_int) ra_nil)))) rss_nil)
    (rss_cons (rs_if (rt_eq hr (re_ix (re_var 0) re_int) (re_str [110, 97, 109, 101])) (rss_one (rs_ret (re_callP G_is_name hr tkOf (ra_cons (re_ix (re_var 0) re_int) ra_nil)))) rss_nil)
    (rss_one (rs_ret (re_and (re_in (re_ix (re_var 0) re_int) (re_tup (ra_cons (re_str [111, 119, 110]) (ra_cons (re_str [110, 101, 120, 116]) ra_nil)))) (re_one (re_callP G_is_column hr tkOf (ra_cons (re_ix (re_var 0) re_int) ra_nil)))))))))))⟩⟩
abbrev s_integer_in : Stmt := top 18
def N_integer_in : List Str := ["text", "most", "body", "sign"]
def m_integer_in : MS :=
    (msSeq (msAsg (mMtS dRmp (mVar 0) (mCons (mC (.str [45])) mNil)) (mgName 2))
    (msSeq (msIf (mOr (mNot (mTst (mChain dLe dLe (mC (.int 1)) (mCall dLen (mCons (mVar 2) mNil)) (mVar 1)))) (mOr (mNot (mTst (mCall dAll (mCons (mLc [3] (miS (mVar 2)) (mgName 3) mYes (mBin dInA (mVar 3) (mC g_DIGITS))) mNil)))) (mTst (mBin dNe (mCall dStr (mCons (mCall dInt (mCons (mVar 0) mNil)) mNil)) (mVar 0))))) (msRet (mC .non)) msNil)
    (msRet (mCall dInt (mCons (mVar 0) mNil)))))
theorem sc_integer_in : FnScope N_integer_in ["text", "most"] (defScope s_integer_in) := ⟨rfl, rfl, rfl, by decide +kernel, rfl, by decide +kernel, by decide +kernel⟩
def F_integer_in : PF := runP N_integer_in.length m_integer_in
theorem ok_integer_in (C : CtxT K w mg) : FnPD P w K mg base "integer_in" 1 1 [(.int 31)] F_integer_in := by
  have sc := sc_integer_in
  obtain ⟨f, fd, Fd, g⟩ := C.d_integer_in
  obtain ⟨us, hv, hb⟩ := FunD.binds0 (ps := ["text", "most"]) Fd 1 (by simp) rfl (fun D doc pm an cdv ct us ks h1 h2 => match us, ks, h1, h2 with | [_], [_], _, _ => ⟨_, _, _, _, _, _, rfl, rfl, rfl⟩)
  exact ⟨⟨f, fd, ["text", "most"], us, _, g, Fd.kp, hb, hv, fun c _ _ => .cons (.int _) .nil, rfl, fnP Fd sc fun cdv A outer s H E hr => (rss_cons (rs_set 2 sc.nd (re_rmp (re_var 0) (ra_cons (re_str [45]) ra_nil)))
    (rss_cons (rs_if (rt_bool (rw_or (rt_not (rt_lele re_int (re_len C.n_len (ra_cons (re_var 2) ra_nil)) (re_var 1))) (rw_or (rt_not (rt_val (re_all rfl C.n_all (ra_cons (re_lc (own := [("sign", 3)]) rfl sc.nd (ri_str (re_var 2)) (blkOk_by (N := N_integer_in) (sc := defScope s_integer_in) (by decide +kernel)) (by decide) (fun _ _ _ _ _ => (rg_name 3 sc.nd)) (fun _ _ _ _ _ => rts_nil) (fun _ _ _ _ _ => (re_in (re_var 3) (re_glob C.c_DIGITS)))) ra_nil)))) (rw_or1 (rt_ne hr (re_strc C.n_str (ra_cons (re_intc C.n_int (ra_cons (re_var 0) ra_nil)) ra_nil)) (re_var 0)))))) (rss_one (rs_ret re_non)) rss_nil)
    (rss_one (rs_ret (re_intc C.n_int (ra_cons (re_var 0) ra_nil))))))⟩⟩
abbrev s_plain_in : Stmt := top 19
def N_plain_in : List Str := ["word", "left", "dot", "right", "found", "number"]
def m_plain_in : MS :=
    (msSeq (msAsg (mMtS dPart (mVar 0) (mCons (mC (.str [46])) mNil)) (mgTup 3 (mgCons (mgName 1) (mgCons (mgName 2) (mgCons (mgName 3) mgNil)))))
    (msSeq (msIf (mTst (mBin dNe (mVar 2) (mC (.str [])))) (msAsg (mIf (mTst (mBin dInA (mVar 1) (mTup (mCons (mC (.str [111, 119, 110])) (mCons (mC (.str [110, 101, 120, 116])) mNil))))) (mTup (mCons (mVar 1) (mCons (mVar 3) mNil))) (mTup (mCons (mC (.str [102, 105, 101, 108, 100])) (mCons (mVar 1) (mCons (mVar 3) mNil))))) (mgName 4)) (msIf (mAnd (mTst (mBin dNe (mVar 0) (mC (.str [])))) (mTst (mBin dInA (mBin dIx (mVar 0) (mC (.int 0))) (mBin dAdd (mC (.str [45])) (mC g_DIGITS))))) (msSeq (msAsg (mCallP (fun ds => F_integer_in (ds ++ [(.int 31)])) (mCons (mVar 0) mNil)) (mgName 5))
    (msAsg (mTup (mCons (mC (.str [110, 117, 109, 98, 101, 114])) (mCons (mVar 5) mNil))) (mgName 4))) (msAsg (mTup (mCons (mC (.str [110, 97, 109, 101])) (mCons (mVar 0) mNil))) (mgName 4))))
    (msRet (mIf (mTst (mCallP F_is_plain (mCons (mVar 4) mNil))) (mVar 4) (mC .non)))))
theorem sc_plain_in : FnScope N_plain_in ["word"] (defScope s_plain_in) := ⟨rfl, rfl, rfl, by decide +kernel, rfl, by decide +kernel, by decide +kernel⟩
def F_plain_in : PF := runP N_plain_in.length m_plain_in
theorem ok_plain_in (C : CtxT K w mg) : FnP P w K mg base "plain_in" (4) 1 (F_plain_in) := by
  have sc := sc_plain_in
  have G_integer_in := ok_integer_in (P := P) (w := w) (base := base) C
  have G_is_plain := ok_is_plain (P := P) (w := w) (base := base) C
  obtain ⟨f, fd, Fd, g⟩ := C.d_plain_in
  exact ⟨⟨f, fd, ["word"], g, Fd.kp, Fd.bindsN (fun _ _ _ _ _ _ us hl => match us, hl with | [_], _ => rfl), rfl, fnP Fd sc fun cdv A outer s H E hr => (rss_cons (rs_asg (re_part (re_var 0) (ra_cons (re_str [46]) ra_nil)) (rg_tup (n := 3) rfl (rgs_cons (rg_name 1 sc.nd) (rgs_cons (rg_name 2 sc.nd) (rgs_cons (rg_name 3 sc.nd) rgs_nil)))))
    (rss_cons (rs_if (rt_ne hr (re_var 2) (re_str [])) (rss_one (rs_set 4 sc.nd (re_if (rt_in (re_var 1) (re_tup (ra_cons (re_str [111, 119, 110]) (ra_cons (re_str [110, 101, 120, 116]) ra_nil)))) (re_tup (ra_cons (re_var 1) (ra_cons (re_var 3) ra_nil))) (re_tup (ra_cons (re_str [102, 105, 101, 108, 100]) (ra_cons (re_var 1) (ra_cons (re_var 3) ra_nil))))))) (rss_one (rs_if (rt_bool (rw_and (rt_ne hr (re_var 0) (re_str [])) (rw_and1 (rt_in (re_ix (re_var 0) re_int) (re_add (re_str [45]) (re_glob C.c_DIGITS)))))) (rss_cons (rs_set 5 sc.nd (re_callPD G_integer_in hr tkOf (ra_cons (re_var 0) ra_nil)))
    (rss_one (rs_set 4 sc.nd (re_tup (ra_cons (re_str [110, 117, 109, 98, 101, 114]) (ra_cons (re_var 5) ra_nil)))))) (rss_one (rs_set 4 sc.nd (re_tup (ra_cons (re_str [110, 97, 109, 101]) (ra_cons (re_var 0) ra_nil))))))))
    (rss_one (rs_ret (re_if (rt_val (re_callP G_is_plain hr tkOf (ra_cons (re_var 4) ra_nil))) (re_var 4) re_non)))))⟩⟩
abbrev s_is_value : Stmt := top 15
def N_is_value : List Str := ["value"]
def m_is_value : MS :=
    (msSeq (msIf (mAnd (mTst (mIsi [.tup] (mVar 0))) (mAnd (mTst (mBin dEq (mCall dLen (mCons (mVar 0) mNil)) (mC (.int 3)))) (mAnd (mTst (mIsi [.str] (mBin dIx (mVar 0) (mC (.int 0))))) (mTst (mBin dEq (mBin dIx (mVar 0) (mC (.int 0))) (mC (.str [112, 108, 117, 115]))))))) (msRet (mAndV (mCallP F_is_plain (mCons (mBin dIx (mVar 0) (mC (.int 1))) mNil)) (mCallP F_is_constant (mCons (mBin dIx (mVar 0) (mC (.int 2))) mNil)))) msNil)
    (msRet (mCallP F_is_plain (mCons (mVar 0) mNil))))
theorem sc_is_value : FnScope N_is_value ["value"] (defScope s_is_value) := ⟨rfl, rfl, rfl, by decide +kernel, rfl, by decide +kernel, by decide +kernel⟩
def F_is_value : PF := runP N_is_value.length m_is_value
theorem ok_is_value (C : CtxT K w mg) : FnP P w K mg base "is_value" (4) 1 (F_is_value) := by
  have sc := sc_is_value
  have G_is_constant := ok_is_constant (P := P) (w := w) (base := base) C
  have G_is_plain := ok_is_plain (P := P) (w := w) (base := base) C
  obtain ⟨f, fd, Fd, g⟩ := C.d_is_value
  exact ⟨⟨f, fd, ["value"], g, Fd.kp, Fd.bindsN (fun _ _ _ _ _ _ us hl => match us, hl with | [_], _ => rfl), rfl, fnP Fd sc fun cdv A outer s H E hr => (rss_cons (rs_if (rt_bool (rw_and (rt_val (re_isi .tup C.n_isinstance C.n_tuple (re_var 0))) (rw_and (rt_eq hr (re_len C.n_len (ra_cons (re_var 0) ra_nil)) re_int) (rw_and (rt_val (re_isi .str C.n_isinstance C.n_str (re_ix (re_var 0) re_int))) (rw_and1 (rt_eq hr (re_ix (re_var 0) re_int) (re_str [112, 108, 117, 115]))))))) (rss_one (rs_ret (re_and (re_callP G_is_plain hr tkOf (ra_cons (re_ix (re_var 0) re_int) ra_nil)) (re_one (re_callP G_is_constant hr tkOf (ra_cons (re_ix (re_var 0) re_int) ra_nil)))))) rss_nil)
    (rss_one (rs_ret (re_callP G_is_plain hr tkOf (ra_cons (re_var 0) ra_nil)))))⟩⟩
abbrev s_integer_text : Stmt := top 16
def N_integer_text : List Str := ["sign", "number"]
def m_integer_text : MS :=
    (msRet (mIf (mTst (mBin dLt (mVar 1) (mC (.int 0)))) (jsL [(mC (.str [32, 45, 32])), (mFmt (mBin dSub (mC (.int 0)) (mVar 1)))] []) (jsL [(mC (.str [32])), (mFmt (mVar 0)), (mC (.str [32])), (mFmt (mVar 1))] [])))
theorem sc_integer_text : FnScope N_integer_text ["sign", "number"] (defScope s_integer_text) := ⟨rfl, rfl, rfl, by decide +kernel, rfl, by decide +kernel, by decide +kernel⟩
def F_integer_text : PF := runP N_integer_text.length m_integer_text
theorem ok_integer_text (C : CtxT K w mg) : FnP P w K mg base "integer_text" (1) 2 (F_integer_text) := by
  have sc := sc_integer_text
  obtain ⟨f, fd, Fd, g⟩ := C.d_integer_text
  exact ⟨⟨f, fd, ["sign", "number"], g, Fd.kp, Fd.bindsN (fun _ _ _ _ _ _ us hl => match us, hl with | [_, _], _ => rfl), rfl, fnP Fd sc fun cdv A outer s H E hr => (rss_one (rs_ret (re_if (rt_lt (re_var 1) re_int) (re_joined (.cons (re_str [32, 45, 32]) (.cons (re_fmt (re_sub re_int (re_var 1))) RJ.nil))) (re_joined (.cons (re_str [32]) (.cons (re_fmt (re_var 0)) (.cons (re_str [32]) (.cons (re_fmt (re_var 1)) RJ.nil))))))))⟩⟩
abbrev s_value_text : Stmt := top 17
def N_value_text : List Str := ["value"]
def m_value_text (F : PF) : MS :=
    (msSeq (msIf (mNot (mTst (mCallP F_is_value (mCons (mVar 0) mNil)))) msNo msNil)
    (msSeq (msIf (mTst (mBin dEq (mBin dIx (mVar 0) (mC (.int 0))) (mC (.str [112, 108, 117, 115])))) (msRet (mBin dAdd (mCallP F (mCons (mBin dIx (mVar 0) (mC (.int 1))) mNil)) (mCallP F_integer_text (mCons (mC (.str [43])) (mCons (mBin dIx (mVar 0) (mC (.int 2))) mNil))))) msNil)
    (msSeq (msIf (mTst (mBin dEq (mBin dIx (mVar 0) (mC (.int 0))) (mC (.str [102, 105, 101, 108, 100])))) (msRet (jsL [(mFmt (mBin dIx (mVar 0) (mC (.int 1)))), (mC (.str [46])), (mFmt (mBin dIx (mVar 0) (mC (.int 2))))] [])) msNil)
    (msSeq (msIf (mTst (mBin dInA (mBin dIx (mVar 0) (mC (.int 0))) (mTup (mCons (mC (.str [111, 119, 110])) (mCons (mC (.str [110, 101, 120, 116])) mNil))))) (msRet (jsL [(mFmt (mBin dIx (mVar 0) (mC (.int 0)))), (mC (.str [46])), (mFmt (mBin dIx (mVar 0) (mC (.int 1))))] [])) msNil)
    (msRet (mCall dStr (mCons (mBin dIx (mVar 0) (mC (.int 1))) mNil)))))))
theorem sc_value_text : FnScope N_value_text ["value"] (defScope s_value_text) := ⟨rfl, rfl, rfl, by decide +kernel, rfl, by decide +kernel, by decide +kernel⟩
def F_value_text_ : Nat → PF
  | 0 => fun _ => none
  | t + 1 => runP N_value_text.length (m_value_text (F_value_text_ t))
def F_value_text : PF := F_value_text_ 3
theorem okr_value_text (C : CtxT K w mg) : ∀ t, FnP P w K mg base "value_text" (4 + (t)) 1 (F_value_text_ t) := by
  have sc := sc_value_text
  have G_integer_text := ok_integer_text (P := P) (w := w) (base := base) C
  have G_is_value := ok_is_value (P := P) (w := w) (base := base) C
  obtain ⟨f, fd, Fd, g⟩ := C.d_value_text
  intro t
  induction t with
  | zero => exact ⟨⟨f, fd, ["value"], g, Fd.kp, Fd.bindsN (fun _ _ _ _ _ _ us hl => match us, hl with | [_], _ => rfl), rfl, fnOk0⟩⟩
  | succ t G =>
    have Z : FnP P w K mg base "value_text" (4 + t + 1) 1 (F_value_text_ (t + 1)) := ⟨⟨f, fd, ["value"], g, Fd.kp, Fd.bindsN (fun _ _ _ _ _ _ us hl => match us, hl with | [_], _ => rfl), rfl, fnP Fd sc fun cdv A outer s H E hr => (rss_cons (rs_if (rt_not (rt_val (re_callP G_is_value hr tkOf (ra_cons (re_var 0) ra_nil) (hk := by omega)))) (rss_one rs_no) rss_nil)
    (rss_cons (rs_if (rt_eq hr (re_ix (re_var 0) re_int) (re_str [112, 108, 117, 115])) (rss_one (rs_ret (re_add (re_callP G hr tkOf (ra_cons (re_ix (re_var 0) re_int) ra_nil) (hk := by omega)) (re_callP G_integer_text hr tkOf (ra_cons (re_str [43]) (ra_cons (re_ix (re_var 0) re_int) ra_nil)) (hk := by omega))))) rss_nil)
    (rss_cons (rs_if (rt_eq hr (re_ix (re_var 0) re_int) (re_str [102, 105, 101, 108, 100])) (rss_one (rs_ret (re_joined (.cons (re_fmt (re_ix (re_var 0) re_int)) (.cons (re_str [46]) (.cons (re_fmt (re_ix (re_var 0) re_int)) RJ.nil)))))) rss_nil)
    (rss_cons (rs_if (rt_in (re_ix (re_var 0) re_int) (re_tup (ra_cons (re_str [111, 119, 110]) (ra_cons (re_str [110, 101, 120, 116]) ra_nil)))) (rss_one (rs_ret (re_joined (.cons (re_fmt (re_ix (re_var 0) re_int)) (.cons (re_str [46]) (.cons (re_fmt (re_ix (re_var 0) re_int)) RJ.nil)))))) rss_nil)
    (rss_one (rs_ret (re_strc C.n_str (ra_cons (re_ix (re_var 0) re_int) ra_nil))))))))⟩⟩
    exact FnP.mono Z (by omega)
theorem ok_value_text (C : CtxT K w mg) : FnP P w K mg base "value_text" (8) 1 (F_value_text) := FnP.mono (okr_value_text C 3) (by decide)
abbrev s_read_value : Stmt := top 20
def N_read_value : List Str := ["text", "words", "found", "number"]
def m_read_value : MS :=
    (msSeq (msAsg (mIf (mTst (mIsi [.str] (mVar 0))) (mMtS dSplit (mVar 0) (mCons (mC (.str [32])) mNil)) (mLst mNil)) (mgName 1))
    (msSeq (msAsg (mIf (mTst (mBin dInA (mCall dLen (mCons (mVar 1) mNil)) (mTup (mCons (mC (.int 1)) (mCons (mC (.int 3)) mNil))))) (mCallP F_plain_in (mCons (mBin dIx (mVar 1) (mC (.int 0))) mNil)) (mC .non)) (mgName 2))
    (msSeq (msIf (mAnd (mTst (mBin (dIsN true) (mVar 2) (mC .non))) (mTst (mBin dEq (mCall dLen (mCons (mVar 1) mNil)) (mC (.int 3))))) (msSeq (msAsg (mCallP (fun ds => F_integer_in (ds ++ [(.int 31)])) (mCons (mBin dIx (mVar 1) (mC (.int 2))) mNil)) (mgName 3))
    (msAsg (mIf (mTst (mBin (dIsN false) (mVar 3) (mC .non))) (mC .non) (mTup (mCons (mC (.str [112, 108, 117, 115])) (mCons (mVar 2) (mCons (mIf (mTst (mBin dEq (mBin dIx (mVar 1) (mC (.int 1))) (mC (.str [45])))) (mBin dSub (mC (.int 0)) (mVar 3)) (mVar 3)) mNil))))) (mgName 2))) msNil)
    (msSeq (msIf (mOr (mTst (mBin (dIsN false) (mVar 2) (mC .non))) (mOr (mNot (mTst (mCallP F_is_value (mCons (mVar 2) mNil)))) (mTst (mBin dNe (mCallP F_value_text (mCons (mVar 2) mNil)) (mVar 0))))) msNo msNil)
    (msRet (mVar 2))))))
theorem sc_read_value : FnScope N_read_value ["text"] (defScope s_read_value) := ⟨rfl, rfl, rfl, by decide +kernel, rfl, by decide +kernel, by decide +kernel⟩
def F_read_value : PF := runP N_read_value.length m_read_value
theorem ok_read_value (C : CtxT K w mg) : FnP P w K mg base "read_value" (9) 1 (F_read_value) := by
  have sc := sc_read_value
  have G_integer_in := ok_integer_in (P := P) (w := w) (base := base) C
  have G_is_value := ok_is_value (P := P) (w := w) (base := base) C
  have G_plain_in := ok_plain_in (P := P) (w := w) (base := base) C
  have G_value_text := ok_value_text (P := P) (w := w) (base := base) C
  obtain ⟨f, fd, Fd, g⟩ := C.d_read_value
  exact ⟨⟨f, fd, ["text"], g, Fd.kp, Fd.bindsN (fun _ _ _ _ _ _ us hl => match us, hl with | [_], _ => rfl), rfl, fnP Fd sc fun cdv A outer s H E hr => (rss_cons (rs_set 1 sc.nd (re_if (rt_val (re_isi .str C.n_isinstance C.n_str (re_var 0))) (re_split (re_var 0) (ra_cons (re_str [32]) ra_nil)) (re_lst ra_nil)))
    (rss_cons (rs_set 2 sc.nd (re_if (rt_in (re_len C.n_len (ra_cons (re_var 1) ra_nil)) (re_tup (ra_cons re_int (ra_cons re_int ra_nil)))) (re_callP G_plain_in hr tkOf (ra_cons (re_ix (re_var 1) re_int) ra_nil)) re_non))
    (rss_cons (rs_if (rt_bool (rw_and (rt_isn (re_var 2) re_non) (rw_and1 (rt_eq hr (re_len C.n_len (ra_cons (re_var 1) ra_nil)) re_int)))) (rss_cons (rs_set 3 sc.nd (re_callPD G_integer_in hr tkOf (ra_cons (re_ix (re_var 1) re_int) ra_nil)))
    (rss_one (rs_set 2 sc.nd (re_if (rt_is (re_var 3) re_non) re_non (re_tup (ra_cons (re_str [112, 108, 117, 115]) (ra_cons (re_var 2) (ra_cons (re_if (rt_eq hr (re_ix (re_var 1) re_int) (re_str [45])) (re_sub re_int (re_var 3)) (re_var 3)) ra_nil)))))))) rss_nil)
    (rss_cons (rs_if (rt_bool (rw_or (rt_is (re_var 2) re_non) (rw_or (rt_not (rt_val (re_callP G_is_value hr tkOf (ra_cons (re_var 2) ra_nil)))) (rw_or1 (rt_ne hr (re_callP G_value_text hr tkOf (ra_cons (re_var 2) ra_nil)) (re_var 0)))))) (rss_one rs_no) rss_nil)
    (rss_one (rs_ret (re_var 2)))))))⟩⟩
def N_ConditionReader_value : List Str := ["self", "text", "sign"]
def mb_ConditionReader_value_0 : MS :=
    (msIf (mTst (mMeI "ConditionReader" "comes" F_ConditionReader_comes (mVar 0) (mCons (mVar 2) mNil))) (msAsg (mBin dAdd (mBin dAdd (mVar 1) (mVar 2)) (mMeI "ConditionReader" "signs" F_ConditionReader_signs (mVar 0) mNil)) (mgName 1)) msNil)
def m_ConditionReader_value : MS :=
    (msSeq (msAsg (mMeI "ConditionReader" "signs" F_ConditionReader_signs (mVar 0) mNil) (mgName 1))
    (msSeq (msFor (miT (mTup (mCons (mC (.str [32, 43, 32])) (mCons (mC (.str [32, 45, 32])) mNil)))) (mgName 2) mb_ConditionReader_value_0)
    (msRet (mCallP F_read_value (mCons (mVar 1) mNil)))))
theorem sc_ConditionReader_value : FnScope N_ConditionReader_value ["self"] (defScope s_ConditionReader_value) := ⟨rfl, rfl, rfl, by decide +kernel, rfl, by decide +kernel, by decide +kernel⟩
def F_ConditionReader_value : IF := runI N_ConditionReader_value.length m_ConditionReader_value
theorem ok_ConditionReader_value (C : CtxT K w mg) : MetI P w K mg base "ConditionReader" "value" (10) 1 (F_ConditionReader_value) := by
  have sc := sc_ConditionReader_value
  have G_ConditionReader_comes := ok_ConditionReader_comes (P := P) (w := w) (base := base) C
  have G_ConditionReader_signs := ok_ConditionReader_signs (P := P) (w := w) (base := base) C
  have G_read_value := ok_read_value (P := P) (w := w) (base := base) C
  obtain ⟨Ca, f, fd, h1, h0, h2, Fd⟩ := C.d_ConditionReader_value
  exact ⟨⟨Ca, f, fd, ["self"], h1, h0, h2, Fd.bindsN (fun _ _ _ _ _ _ us hl => match us, hl with | [_], _ => rfl), rfl, fnI Fd sc fun cdv A outer s H E hr => (rss_cons (rs_set 1 sc.nd (re_methI0 G_ConditionReader_signs hr tkOf flatE (re_var 0)))
    (rss_cons (rs_for poOf rfl (ri_tup (re_tup (ra_cons (re_str [32, 43, 32]) (ra_cons (re_str [32, 45, 32]) ra_nil)))) (rg_name 2 sc.nd) (rss_one (rs_if (rt_val (re_methI G_ConditionReader_comes hr tkOf flatE (re_var 0) (ra_cons (re_var 2) ra_nil))) (rss_one (rs_set 1 sc.nd (re_add (re_add (re_var 1) (re_var 2)) (re_methI0 G_ConditionReader_signs hr tkOf flatE (re_var 0))))) rss_nil)))
    (rss_one (rs_ret (re_callP G_read_value hr tkOf (ra_cons (re_var 1) ra_nil))))))⟩⟩
def N_ConditionReader_comparison : List Str := ["self", "one", "word", "sign"]
def mb_ConditionReader_comparison_0 : MS :=
    (msIf (mTst (mMeI "ConditionReader" "comes" F_ConditionReader_comes (mVar 0) (mCons (jsL [(mC (.str [32])), (mFmt (mVar 3)), (mC (.str [32]))] []) mNil))) (msRet (mTup (mCons (mVar 2) (mCons (mVar 1) (mCons (mMeI "ConditionReader" "value" F_ConditionReader_value (mVar 0) mNil) mNil))))) msNil)
def m_ConditionReader_comparison : MS :=
    (msSeq (msAsg (mMeI "ConditionReader" "value" F_ConditionReader_value (mVar 0) mNil) (mgName 1))
    (msSeq (msFor (miL (mC (dItems kv_SIGNS))) (mgTup 2 (mgCons (mgName 2) (mgCons (mgName 3) mgNil))) mb_ConditionReader_comparison_0)
    msNo))
theorem sc_ConditionReader_comparison : FnScope N_ConditionReader_comparison ["self"] (defScope s_ConditionReader_comparison) := ⟨rfl, rfl, rfl, by decide +kernel, rfl, by decide +kernel, by decide +kernel⟩
def F_ConditionReader_comparison : IF := runI N_ConditionReader_comparison.length m_ConditionReader_comparison
theorem ok_ConditionReader_comparison (C : CtxT K w mg) : MetI P w K mg base "ConditionReader" "comparison" (11) 1 (F_ConditionReader_comparison) := by
  have sc := sc_ConditionReader_comparison
  have G_ConditionReader_comes := ok_ConditionReader_comes (P := P) (w := w) (base := base) C
  have G_ConditionReader_value := ok_ConditionReader_value (P := P) (w := w) (base := base) C
  obtain ⟨Ca, f, fd, h1, h0, h2, Fd⟩ := C.d_ConditionReader_comparison
  exact ⟨⟨Ca, f, fd, ["self"], h1, h0, h2, Fd.bindsN (fun _ _ _ _ _ _ us hl => match us, hl with | [_], _ => rfl), rfl, fnI Fd sc fun cdv A outer s H E hr => (rss_cons (rs_set 1 sc.nd (re_methI0 G_ConditionReader_value hr tkOf flatE (re_var 0)))
    (rss_cons (rs_for poOf rfl (ri_list (re_citems C.e_SIGNS rfl (by decide) (by decide) (hm := C.n_list))) (rg_tup (n := 2) rfl (rgs_cons (rg_name 2 sc.nd) (rgs_cons (rg_name 3 sc.nd) rgs_nil))) (rss_one (rs_if (rt_val (re_methI G_ConditionReader_comes hr tkOf flatE (re_var 0) (ra_cons (re_joined (.cons (re_str [32]) (.cons (re_fmt (re_var 3)) (.cons (re_str [32]) RJ.nil)))) ra_nil))) (rss_one (rs_ret (re_tup (ra_cons (re_var 2) (ra_cons (re_var 1) (ra_cons (re_methI0 G_ConditionReader_value hr tkOf flatE (re_var 0)) ra_nil)))))) rss_nil)))
    (rss_one rs_no)))⟩⟩
def N_ConditionReader_joined : List Str := ["self", "depth", "one", "word", "other"]
def mb_ConditionReader_joined_0 (F : IF) : MS :=
    (msIf (mTst (mMeI "ConditionReader" "comes" F_ConditionReader_comes (mVar 0) (mCons (jsL [(mC (.str [32])), (mFmt (mVar 3)), (mC (.str [32]))] []) mNil))) (msSeq (msAsg (mMeI "ConditionReader" "condition" F (mVar 0) (mCons (mBin dAdd (mVar 1) (mC (.int 1))) mNil)) (mgName 4))
    (msIf (mTst (mMeI "ConditionReader" "comes" F_ConditionReader_comes (mVar 0) (mCons (mC (.str [41])) mNil))) (msRet (mTup (mCons (mVar 3) (mCons (mVar 2) (mCons (mVar 4) mNil))))) msNil)) msNil)
def m_ConditionReader_joined (F : IF) : MS :=
    (msSeq (msAsg (mMeI "ConditionReader" "condition" F (mVar 0) (mCons (mBin dAdd (mVar 1) (mC (.int 1))) mNil)) (mgName 2))
    (msSeq (msFor (miT (mC g_JOINTS)) (mgName 3) (mb_ConditionReader_joined_0 F))
    msNo))
theorem sc_ConditionReader_joined : FnScope N_ConditionReader_joined ["self", "depth"] (defScope s_ConditionReader_joined) := ⟨rfl, rfl, rfl, by decide +kernel, rfl, by decide +kernel, by decide +kernel⟩
def FX_ConditionReader_joined (F : IF) : IF := runI N_ConditionReader_joined.length (m_ConditionReader_joined F)
theorem okx_ConditionReader_joined (C : CtxT K w mg) {k : Nat} {F : IF} (G : MetI P w K mg base "ConditionReader" "condition" k 2 F) (hb0 : 1 ≤ k) : MetI P w K mg base "ConditionReader" "joined" (k + 1) 2 (FX_ConditionReader_joined F) := by
  have sc := sc_ConditionReader_joined
  have G_ConditionReader_comes := ok_ConditionReader_comes (P := P) (w := w) (base := base) C
  obtain ⟨Ca, f, fd, h1, h0, h2, Fd⟩ := C.d_ConditionReader_joined
  exact ⟨⟨Ca, f, fd, ["self", "depth"], h1, h0, h2, Fd.bindsN (fun _ _ _ _ _ _ us hl => match us, hl with | [_, _], _ => rfl), rfl, fnI Fd sc fun cdv A outer s H E hr => (rss_cons (rs_set 2 sc.nd (re_methI G hr tkOf flatE (re_var 0) (ra_cons (re_add (re_var 1) re_int) ra_nil) (hk := by omega)))
    (rss_cons (rs_for poOf rfl (ri_tup (re_glob C.c_JOINTS)) (rg_name 3 sc.nd) (rss_one (rs_if (rt_val (re_methI G_ConditionReader_comes hr tkOf flatE (re_var 0) (ra_cons (re_joined (.cons (re_str [32]) (.cons (re_fmt (re_var 3)) (.cons (re_str [32]) RJ.nil)))) ra_nil) (hk := by omega))) (rss_cons (rs_set 4 sc.nd (re_methI G hr tkOf flatE (re_var 0) (ra_cons (re_add (re_var 1) re_int) ra_nil) (hk := by omega)))
    (rss_one (rs_if (rt_val (re_methI G_ConditionReader_comes hr tkOf flatE (re_var 0) (ra_cons (re_str [41]) ra_nil) (hk := by omega))) (rss_one (rs_ret (re_tup (ra_cons (re_var 3) (ra_cons (re_var 2) (ra_cons (re_var 4) ra_nil)))))) rss_nil))) rss_nil)))
    (rss_one rs_no)))⟩⟩
def N_ConditionReader_condition : List Str := ["self", "depth", "begin"]
def m_ConditionReader_condition (F : IF) : MS :=
    (msSeq (msIf (mTst (mBin dGt (mVar 1) (mC g_MOST_DEPTH))) msNo msNil)
    (msSeq (msIf (mTst (mMeI "ConditionReader" "comes" F_ConditionReader_comes (mVar 0) (mCons (mC (.str [40])) mNil))) (msRet (mMeI "ConditionReader" "joined" (FX_ConditionReader_joined F) (mVar 0) (mCons (mVar 1) mNil))) msNil)
    (msSeq (msIf (mTst (mMeI "ConditionReader" "comes" F_ConditionReader_comes (mVar 0) (mCons (mC (.str [110, 111, 116, 32])) mNil))) (msRet (mTup (mCons (mC (.str [110, 111, 116])) (mCons (mMeI "ConditionReader" "condition" F (mVar 0) (mCons (mBin dAdd (mVar 1) (mC (.int 1))) mNil)) mNil)))) msNil)
    (msSeq (msIf (mTst (mMeI "ConditionReader" "comes" F_ConditionReader_comes (mVar 0) (mCons (mC (.str [102, 111, 117, 110, 100, 32])) mNil))) (msRet (mTup (mCons (mC (.str [102, 111, 117, 110, 100])) (mCons (mMeI "ConditionReader" "signs" F_ConditionReader_signs (mVar 0) mNil) mNil)))) msNil)
    (msSeq (msAsg (mFld ["ConditionReader"] "spot" (mVar 0)) (mgName 2))
    (msSeq (msIf (mTst (mBin dEq (mMeI "ConditionReader" "signs" F_ConditionReader_signs (mVar 0) mNil) (mC (.str [116, 114, 117, 101])))) (msRet (mTup (mCons (mC (.str [116, 114, 117, 101])) mNil))) msNil)
    (msSeq (msFld ["ConditionReader"] "spot" (mVar 0) (mVar 2))
    (msRet (mMeI "ConditionReader" "comparison" F_ConditionReader_comparison (mVar 0) mNil)))))))))
theorem sc_ConditionReader_condition : FnScope N_ConditionReader_condition ["self", "depth"] (defScope s_ConditionReader_condition) := ⟨rfl, rfl, rfl, by decide +kernel, rfl, by decide +kernel, by decide +kernel⟩
def F_ConditionReader_condition_ : Nat → IF
  | 0 => fun _ _ => none
  | t + 1 => runI N_ConditionReader_condition.length (m_ConditionReader_condition (F_ConditionReader_condition_ t))
def F_ConditionReader_condition : IF := F_ConditionReader_condition_ 12
theorem okr_ConditionReader_condition (C : CtxT K w mg) : ∀ t, MetI P w K mg base "ConditionReader" "condition" (11 + (t + t)) 2 (F_ConditionReader_condition_ t) := by
  have sc := sc_ConditionReader_condition
  have G_ConditionReader_comes := ok_ConditionReader_comes (P := P) (w := w) (base := base) C
  have G_ConditionReader_comparison := ok_ConditionReader_comparison (P := P) (w := w) (base := base) C
  have G_ConditionReader_signs := ok_ConditionReader_signs (P := P) (w := w) (base := base) C
  obtain ⟨Ca, f, fd, h1, h0, h2, Fd⟩ := C.d_ConditionReader_condition
  intro t
  induction t with
  | zero => exact ⟨⟨Ca, f, fd, ["self", "depth"], h1, h0, h2, Fd.bindsN (fun _ _ _ _ _ _ us hl => match us, hl with | [_, _], _ => rfl), rfl, fnOk0I⟩⟩
  | succ t G =>
    have G_ConditionReader_joined := okx_ConditionReader_joined (P := P) (w := w) (base := base) C G (by omega)
    have Z : MetI P w K mg base "ConditionReader" "condition" (11 + (t + t) + 1 + 1) 2 (F_ConditionReader_condition_ (t + 1)) := ⟨⟨Ca, f, fd, ["self", "depth"], h1, h0, h2, Fd.bindsN (fun _ _ _ _ _ _ us hl => match us, hl with | [_, _], _ => rfl), rfl, fnI Fd sc fun cdv A outer s H E hr => (rss_cons (rs_if (rt_gt (re_var 1) (re_glob C.c_MOST_DEPTH)) (rss_one rs_no) rss_nil)
    (rss_cons (rs_if (rt_val (re_methI G_ConditionReader_comes hr tkOf flatE (re_var 0) (ra_cons (re_str [40]) ra_nil) (hk := by omega))) (rss_one (rs_ret (re_methI G_ConditionReader_joined hr tkOf flatE (re_var 0) (ra_cons (re_var 1) ra_nil) (hk := by omega)))) rss_nil)
    (rss_cons (rs_if (rt_val (re_methI G_ConditionReader_comes hr tkOf flatE (re_var 0) (ra_cons (re_str [110, 111, 116, 32]) ra_nil) (hk := by omega))) (rss_one (rs_ret (re_tup (ra_cons (re_str [110, 111, 116]) (ra_cons (re_methI G hr tkOf flatE (re_var 0) (ra_cons (re_add (re_var 1) re_int) ra_nil) (hk := by omega)) ra_nil))))) rss_nil)
    (rss_cons (rs_if (rt_val (re_methI G_ConditionReader_comes hr tkOf flatE (re_var 0) (ra_cons (re_str [102, 111, 117, 110, 100, 32]) ra_nil) (hk := by omega))) (rss_one (rs_ret (re_tup (ra_cons (re_str [102, 111, 117, 110, 100]) (ra_cons (re_methI0 G_ConditionReader_signs hr tkOf flatE (re_var 0) (hk := by omega)) ra_nil))))) rss_nil)
    (rss_cons (rs_set 2 sc.nd (re_fld (ClsFs.cons C.a_ConditionReader_spot ClsFs.nil) (re_var 0)))
    (rss_cons (rs_if (rt_eq hr (re_methI0 G_ConditionReader_signs hr tkOf flatE (re_var 0) (hk := by omega)) (re_str [116, 114, 117, 101])) (rss_one (rs_ret (re_tup (ra_cons (re_str [116, 114, 117, 101]) ra_nil)))) rss_nil)
    (rss_cons (rs_fld (ClsFs.cons C.a_ConditionReader_spot ClsFs.nil) (re_var 0) (re_var 2))
    (rss_one (rs_ret (re_methI0 G_ConditionReader_comparison hr tkOf flatE (re_var 0) (hk := by omega)))))))))))⟩⟩
    exact MetI.mono Z (by omega)
theorem ok_ConditionReader_condition (C : CtxT K w mg) : MetI P w K mg base "ConditionReader" "condition" (35) 2 (F_ConditionReader_condition) := MetI.mono (okr_ConditionReader_condition C 12) (by decide)
abbrev s_inner_parts : Stmt := top 26
def N_inner_parts : List Str := ["condition", "at"]
def me_inner_parts_0 : M D :=
    (mTup (mCons (mVar 1) (mCons (mBin dIx (mVar 0) (mVar 1)) mNil)))
def m_inner_parts : MS :=
    (msSeq (msIf (mTst (mBin dNinA (mBin dIx (mVar 0) (mC (.int 0))) (mTup (mCons (mC (.str [110, 111, 116])) (mCons (mC (.str [97, 110, 100])) (mCons (mC (.str [111, 114])) mNil)))))) (msRet (mLst mNil)) msNil)
    (msRet (mLc [1] (miR2 (mCons (mC (.int 1)) (mCons (mCall dLen (mCons (mVar 0) mNil)) mNil))) (mgName 1) mYes me_inner_parts_0)))
theorem sc_inner_parts : FnScope N_inner_parts ["condition"] (defScope s_inner_parts) := ⟨rfl, rfl, rfl, by decide +kernel, rfl, by decide +kernel, by decide +kernel⟩
def F_inner_parts : PF := runP N_inner_parts.length m_inner_parts
theorem ok_inner_parts (C : CtxT K w mg) : FnP P w K mg base "inner_parts" (1) 1 (F_inner_parts) := by
  have sc := sc_inner_parts
  obtain ⟨f, fd, Fd, g⟩ := C.d_inner_parts
  exact ⟨⟨f, fd, ["condition"], g, Fd.kp, Fd.bindsN (fun _ _ _ _ _ _ us hl => match us, hl with | [_], _ => rfl), rfl, fnP Fd sc fun cdv A outer s H E hr => (rss_cons (rs_if (rt_nin (re_ix (re_var 0) re_int) (re_tup (ra_cons (re_str [110, 111, 116]) (ra_cons (re_str [97, 110, 100]) (ra_cons (re_str [111, 114]) ra_nil))))) (rss_one (rs_ret (re_lst ra_nil))) rss_nil)
    (rss_one (rs_ret (re_lc (own := [("at", 1)]) rfl sc.nd (ri_range2 C.n_range (ra_cons re_int (ra_cons (re_len C.n_len (ra_cons (re_var 0) ra_nil)) ra_nil))) (blkOk_by (N := N_inner_parts) (sc := defScope s_inner_parts) (by decide +kernel)) (by decide) (fun _ _ _ _ _ => (rg_name 1 sc.nd)) (fun _ _ _ _ _ => rts_nil) (fun _ _ _ _ _ => (re_tup (ra_cons (re_var 1) (ra_cons (re_ix (re_var 0) (re_var 1)) ra_nil))))))))⟩⟩
abbrev s_has_form : Stmt := top 25
def N_has_form : List Str := ["condition", "word"]
def m_has_form : MS :=
    (msSeq (msIf (mOr (mNot (mTst (mIsi [.tup] (mVar 0)))) (mOr (mTst (mBin dEq (mCall dLen (mCons (mVar 0) mNil)) (mC (.int 0)))) (mNot (mTst (mIsi [.str] (mBin dIx (mVar 0) (mC (.int 0)))))))) (msRet (mC (.bl false))) msNil)
    (msSeq (msAsg (mBin dIx (mVar 0) (mC (.int 0))) (mgName 1))
    (msSeq (msIf (mTst (mC1 (dCIn false kv_SIGNS) (mVar 1))) (msRet (mAndV (mBin dEq (mCall dLen (mCons (mVar 0) mNil)) (mC (.int 3))) (mAndV (mCallP F_is_value (mCons (mBin dIx (mVar 0) (mC (.int 1))) mNil)) (mCallP F_is_value (mCons (mBin dIx (mVar 0) (mC (.int 2))) mNil))))) msNil)
    (msSeq (msIf (mTst (mBin dEq (mVar 1) (mC (.str [102, 111, 117, 110, 100])))) (msRet (mAndV (mBin dEq (mCall dLen (mCons (mVar 0) mNil)) (mC (.int 2))) (mCallP F_is_name (mCons (mBin dIx (mVar 0) (mC (.int 1))) mNil)))) msNil)
    (msRet (mBin dEq (mCall dLen (mCons (mVar 0) mNil)) (mDGet2 (mDisp [((mC (.str [116, 114, 117, 101])), (mC (.int 1))), ((mC (.str [110, 111, 116])), (mC (.int 2))), ((mC (.str [97, 110, 100])), (mC (.int 3))), ((mC (.str [111, 114])), (mC (.int 3)))]) (mVar 1) (mC (.int 0)))))))))
theorem sc_has_form : FnScope N_has_form ["condition"] (defScope s_has_form) := ⟨rfl, rfl, rfl, by decide +kernel, rfl, by decide +kernel, by decide +kernel⟩
def F_has_form : PF := runP N_has_form.length m_has_form
theorem ok_has_form (C : CtxT K w mg) : FnP P w K mg base "has_form" (5) 1 (F_has_form) := by
  have sc := sc_has_form
  have G_is_name := ok_is_name (P := P) (w := w) (base := base) C
  have G_is_value := ok_is_value (P := P) (w := w) (base := base) C
  obtain ⟨f, fd, Fd, g⟩ := C.d_has_form
  exact ⟨⟨f, fd, ["condition"], g, Fd.kp, Fd.bindsN (fun _ _ _ _ _ _ us hl => match us, hl with | [_], _ => rfl), rfl, fnP Fd sc fun cdv A outer s H E hr => (rss_cons (rs_if (rt_bool (rw_or (rt_not (rt_val (re_isi .tup C.n_isinstance C.n_tuple (re_var 0)))) (rw_or (rt_eq hr (re_len C.n_len (ra_cons (re_var 0) ra_nil)) re_int) (rw_or1 (rt_not (rt_val (re_isi .str C.n_isinstance C.n_str (re_ix (re_var 0) re_int)))))))) (rss_one (rs_ret re_bl)) rss_nil)
    (rss_cons (rs_set 1 sc.nd (re_ix (re_var 0) re_int))
    (rss_cons (rs_if (rt_cin C.e_SIGNS (re_var 1)) (rss_one (rs_ret (re_and (re_eq hr (re_len C.n_len (ra_cons (re_var 0) ra_nil)) re_int) (re_and (re_callP G_is_value hr tkOf (ra_cons (re_ix (re_var 0) re_int) ra_nil)) (re_one (re_callP G_is_value hr tkOf (ra_cons (re_ix (re_var 0) re_int) ra_nil))))))) rss_nil)
    (rss_cons (rs_if (rt_eq hr (re_var 1) (re_str [102, 111, 117, 110, 100])) (rss_one (rs_ret (re_and (re_eq hr (re_len C.n_len (ra_cons (re_var 0) ra_nil)) re_int) (re_one (re_callP G_is_name hr tkOf (ra_cons (re_ix (re_var 0) re_int) ra_nil)))))) rss_nil)
    (rss_one (rs_ret (re_eq hr (re_len C.n_len (ra_cons (re_var 0) ra_nil)) (re_dget2 hr (re_disp (RPs.cons (re_str [116, 114, 117, 101]) re_int (RPs.cons (re_str [110, 111, 116]) re_int (RPs.cons (re_str [97, 110, 100]) re_int (RPs.cons (re_str [111, 114]) re_int RPs.nil))))) (re_var 1) re_int))))))))⟩⟩
abbrev s_wrong_path : Stmt := top 27
def N_wrong_path : List Str := ["condition", "path", "at", "inner", "found"]
def mb_wrong_path_0 (F : PF) : MS :=
    (msSeq (msAsg (mCallP F (mCons (mVar 3) (mCons (mTup (mStar (mVar 1) (mCons (mVar 2) mNil))) mNil))) (mgName 4))
    (msIf (mTst (mBin (dIsN true) (mVar 4) (mC .non))) (msRet (mVar 4)) msNil))
def m_wrong_path (F : PF) : MS :=
    (msSeq (msIf (mOr (mTst (mBin dGe (mCall dLen (mCons (mVar 1) mNil)) (mC g_MOST_DEPTH))) (mNot (mTst (mCallP F_has_form (mCons (mVar 0) mNil))))) (msRet (mVar 1)) msNil)
    (msSeq (msFor (miL (mCallP F_inner_parts (mCons (mVar 0) mNil))) (mgTup 2 (mgCons (mgName 2) (mgCons (mgName 3) mgNil))) (mb_wrong_path_0 F))
    (msRet (mC .non))))
theorem sc_wrong_path : FnScope N_wrong_path ["condition", "path"] (defScope s_wrong_path) := ⟨rfl, rfl, rfl, by decide +kernel, rfl, by decide +kernel, by decide +kernel⟩
def F_wrong_path_ : Nat → PF
  | 0 => fun _ => none
  | t + 1 => runP N_wrong_path.length (m_wrong_path (F_wrong_path_ t))
def F_wrong_path : PF := F_wrong_path_ 12
theorem okr_wrong_path (C : CtxT K w mg) : ∀ t, FnP P w K mg base "wrong_path" (5 + (t)) 2 (F_wrong_path_ t) := by
  have sc := sc_wrong_path
  have G_has_form := ok_has_form (P := P) (w := w) (base := base) C
  have G_inner_parts := ok_inner_parts (P := P) (w := w) (base := base) C
  obtain ⟨f, fd, Fd, g⟩ := C.d_wrong_path
  intro t
  induction t with
  | zero => exact ⟨⟨f, fd, ["condition", "path"], g, Fd.kp, Fd.bindsN (fun _ _ _ _ _ _ us hl => match us, hl with | [_, _], _ => rfl), rfl, fnOk0⟩⟩
  | succ t G =>
    have Z : FnP P w K mg base "wrong_path" (5 + t + 1) 2 (F_wrong_path_ (t + 1)) := ⟨⟨f, fd, ["condition", "path"], g, Fd.kp, Fd.bindsN (fun _ _ _ _ _ _ us hl => match us, hl with | [_, _], _ => rfl), rfl, fnP Fd sc fun cdv A outer s H E hr => (rss_cons (rs_if (rt_bool (rw_or (rt_ge (re_len C.n_len (ra_cons (re_var 1) ra_nil)) (re_glob C.c_MOST_DEPTH)) (rw_or1 (rt_not (rt_val (re_callP G_has_form hr tkOf (ra_cons (re_var 0) ra_nil) (hk := by omega))))))) (rss_one (rs_ret (re_var 1))) rss_nil)
    (rss_cons (rs_for poOf rfl (ri_list (re_callP G_inner_parts hr tkOf (ra_cons (re_var 0) ra_nil) (hk := by omega))) (rg_tup (n := 2) rfl (rgs_cons (rg_name 2 sc.nd) (rgs_cons (rg_name 3 sc.nd) rgs_nil))) (rss_cons (rs_set 4 sc.nd (re_callP G hr tkOf (ra_cons (re_var 3) (ra_cons (re_tup (ra_star (re_var 1) (ra_cons (re_var 2) ra_nil))) ra_nil)) (hk := by omega)))
    (rss_one (rs_if (rt_isn (re_var 4) re_non) (rss_one (rs_ret (re_var 4))) rss_nil))))
    (rss_one (rs_ret re_non))))⟩⟩
    exact FnP.mono Z (by omega)
theorem ok_wrong_path (C : CtxT K w mg) : FnP P w K mg base "wrong_path" (18) 2 (F_wrong_path) := FnP.mono (okr_wrong_path C 12) (by decide)
abbrev s_is_condition : Stmt := top 29
def N_is_condition : List Str := ["value"]
def m_is_condition : MS :=
    (msRet (mBin (dIsN false) (mCallP F_wrong_path (mCons (mVar 0) (mCons (mTup mNil) mNil))) (mC .non)))
theorem sc_is_condition : FnScope N_is_condition ["value"] (defScope s_is_condition) := ⟨rfl, rfl, rfl, by decide +kernel, rfl, by decide +kernel, by decide +kernel⟩
def F_is_condition : PF := runP N_is_condition.length m_is_condition
theorem ok_is_condition (C : CtxT K w mg) : FnP P w K mg base "is_condition" (19) 1 (F_is_condition) := by
  have sc := sc_is_condition
  have G_wrong_path := ok_wrong_path (P := P) (w := w) (base := base) C
  obtain ⟨f, fd, Fd, g⟩ := C.d_is_condition
  exact ⟨⟨f, fd, ["value"], g, Fd.kp, Fd.bindsN (fun _ _ _ _ _ _ us hl => match us, hl with | [_], _ => rfl), rfl, fnP Fd sc fun cdv A outer s H E hr => (rss_one (rs_ret (re_is (re_callP G_wrong_path hr tkOf (ra_cons (re_var 0) (ra_cons (re_tup ra_nil) ra_nil))) re_non)))⟩⟩
abbrev s_text_of : Stmt := top 30
def N_text_of : List Str := ["condition", "word"]
def m_text_of (F : PF) : MS :=
    (msSeq (msAsg (mBin dIx (mVar 0) (mC (.int 0))) (mgName 1))
    (msSeq (msIf (mTst (mC1 (dCIn false kv_SIGNS) (mVar 1))) (msRet (jsL [(mFmt (mCallP F_value_text (mCons (mBin dIx (mVar 0) (mC (.int 1))) mNil))), (mC (.str [32])), (mFmt (mC1 (dCIx kv_SIGNS) (mVar 1))), (mC (.str [32])), (mFmt (mCallP F_value_text (mCons (mBin dIx (mVar 0) (mC (.int 2))) mNil)))] [])) msNil)
    (msSeq (msIf (mTst (mBin dEq (mVar 1) (mC (.str [102, 111, 117, 110, 100])))) (msRet (jsL [(mC (.str [102, 111, 117, 110, 100, 32])), (mFmt (mBin dIx (mVar 0) (mC (.int 1))))] [])) msNil)
    (msSeq (msIf (mTst (mBin dEq (mVar 1) (mC (.str [110, 111, 116])))) (msRet (jsL [(mC (.str [110, 111, 116, 32])), (mFmt (mCallP F (mCons (mBin dIx (mVar 0) (mC (.int 1))) mNil)))] [])) msNil)
    (msRet (mIf (mTst (mBin dEq (mVar 1) (mC (.str [116, 114, 117, 101])))) (mC (.str [116, 114, 117, 101])) (jsL [(mC (.str [40])), (mFmt (mCallP F (mCons (mBin dIx (mVar 0) (mC (.int 1))) mNil))), (mC (.str [32])), (mFmt (mVar 1)), (mC (.str [32])), (mFmt (mCallP F (mCons (mBin dIx (mVar 0) (mC (.int 2))) mNil))), (mC (.str [41]))] [])))))))
theorem sc_text_of : FnScope N_text_of ["condition"] (defScope s_text_of) := ⟨rfl, rfl, rfl, by decide +kernel, rfl, by decide +kernel, by decide +kernel⟩
def F_text_of_ : Nat → PF
  | 0 => fun _ => none
  | t + 1 => runP N_text_of.length (m_text_of (F_text_of_ t))
def F_text_of : PF := F_text_of_ 12
theorem okr_text_of (C : CtxT K w mg) : ∀ t, FnP P w K mg base "text_of" (8 + (t)) 1 (F_text_of_ t) := by
  have sc := sc_text_of
  have G_value_text := ok_value_text (P := P) (w := w) (base := base) C
  obtain ⟨f, fd, Fd, g⟩ := C.d_text_of
  intro t
  induction t with
  | zero => exact ⟨⟨f, fd, ["condition"], g, Fd.kp, Fd.bindsN (fun _ _ _ _ _ _ us hl => match us, hl with | [_], _ => rfl), rfl, fnOk0⟩⟩
  | succ t G =>
    have Z : FnP P w K mg base "text_of" (8 + t + 1) 1 (F_text_of_ (t + 1)) := ⟨⟨f, fd, ["condition"], g, Fd.kp, Fd.bindsN (fun _ _ _ _ _ _ us hl => match us, hl with | [_], _ => rfl), rfl, fnP Fd sc fun cdv A outer s H E hr => (rss_cons (rs_set 1 sc.nd (re_ix (re_var 0) re_int))
    (rss_cons (rs_if (rt_cin C.e_SIGNS (re_var 1)) (rss_one (rs_ret (re_joined (.cons (re_fmt (re_callP G_value_text hr tkOf (ra_cons (re_ix (re_var 0) re_int) ra_nil) (hk := by omega))) (.cons (re_str [32]) (.cons (re_fmt (re_cix C.e_SIGNS (re_var 1))) (.cons (re_str [32]) (.cons (re_fmt (re_callP G_value_text hr tkOf (ra_cons (re_ix (re_var 0) re_int) ra_nil) (hk := by omega))) RJ.nil)))))))) rss_nil)
    (rss_cons (rs_if (rt_eq hr (re_var 1) (re_str [102, 111, 117, 110, 100])) (rss_one (rs_ret (re_joined (.cons (re_str [102, 111, 117, 110, 100, 32]) (.cons (re_fmt (re_ix (re_var 0) re_int)) RJ.nil))))) rss_nil)
    (rss_cons (rs_if (rt_eq hr (re_var 1) (re_str [110, 111, 116])) (rss_one (rs_ret (re_joined (.cons (re_str [110, 111, 116, 32]) (.cons (re_fmt (re_callP G hr tkOf (ra_cons (re_ix (re_var 0) re_int) ra_nil) (hk := by omega))) RJ.nil))))) rss_nil)
    (rss_one (rs_ret (re_if (rt_eq hr (re_var 1) (re_str [116, 114, 117, 101])) (re_str [116, 114, 117, 101]) (re_joined (.cons (re_str [40]) (.cons (re_fmt (re_callP G hr tkOf (ra_cons (re_ix (re_var 0) re_int) ra_nil) (hk := by omega))) (.cons (re_str [32]) (.cons (re_fmt (re_var 1)) (.cons (re_str [32]) (.cons (re_fmt (re_callP G hr tkOf (ra_cons (re_ix (re_var 0) re_int) ra_nil) (hk := by omega))) (.cons (re_str [41]) RJ.nil)))))))))))))))⟩⟩
    exact FnP.mono Z (by omega)
theorem ok_text_of (C : CtxT K w mg) : FnP P w K mg base "text_of" (21) 1 (F_text_of) := FnP.mono (okr_text_of C 12) (by decide)
abbrev s_read_condition : Stmt := top 33
def N_read_condition : List Str := ["text", "reader", "found"]
def m_read_condition : MS :=
    (msSeq (msIf (mNot (mTst (mIsi [.str] (mVar 0)))) msNo msNil)
    (msSeq (msAsg (mMk "ConditionReader" [] F_ConditionReader_init (mCons (mVar 0) mNil)) (mgName 1))
    (msSeq (msAsg (mMeI "ConditionReader" "condition" F_ConditionReader_condition (mVar 1) (mCons (mC (.int 1)) mNil)) (mgName 2))
    (msSeq (msIf (mOr (mTst (mBin dLt (mFld ["ConditionReader"] "spot" (mVar 1)) (mCall dLen (mCons (mVar 0) mNil)))) (mOr (mNot (mTst (mCallP F_is_condition (mCons (mVar 2) mNil)))) (mTst (mBin dNe (mCallP F_text_of (mCons (mVar 2) mNil)) (mVar 0))))) msNo msNil)
    (msRet (mVar 2))))))
theorem sc_read_condition : FnScope N_read_condition ["text"] (defScope s_read_condition) := ⟨rfl, rfl, rfl, by decide +kernel, rfl, by decide +kernel, by decide +kernel⟩
def F_read_condition : IF := runI N_read_condition.length m_read_condition
theorem ok_read_condition (C : CtxT K w mg) : FnI P w K mg base "read_condition" (36) 1 (F_read_condition) := by
  have sc := sc_read_condition
  have G_ConditionReader_condition := ok_ConditionReader_condition (P := P) (w := w) (base := base) C
  have G_ConditionReader_init := ok_ConditionReader_init (P := P) (w := w) (base := base) C
  have G_is_condition := ok_is_condition (P := P) (w := w) (base := base) C
  have G_text_of := ok_text_of (P := P) (w := w) (base := base) C
  obtain ⟨f, fd, Fd, g⟩ := C.d_read_condition
  exact ⟨⟨f, fd, ["text"], g, Fd.kp, Fd.bindsN (fun _ _ _ _ _ _ us hl => match us, hl with | [_], _ => rfl), rfl, fnI Fd sc fun cdv A outer s H E hr => (rss_cons (rs_if (rt_not (rt_val (re_isi .str C.n_isinstance C.n_str (re_var 0)))) (rss_one rs_no) rss_nil)
    (rss_cons (rs_set 1 sc.nd (re_mk G_ConditionReader_init hr tkOf flatE (ra_cons (re_var 0) ra_nil)))
    (rss_cons (rs_set 2 sc.nd (re_methI G_ConditionReader_condition hr tkOf flatE (re_var 1) (ra_cons re_int ra_nil)))
    (rss_cons (rs_if (rt_bool (rw_or (rt_lt (re_fld (ClsFs.cons C.a_ConditionReader_spot ClsFs.nil) (re_var 1)) (re_len C.n_len (ra_cons (re_var 0) ra_nil))) (rw_or (rt_not (rt_val (re_callP G_is_condition hr tkOf (ra_cons (re_var 2) ra_nil)))) (rw_or1 (rt_ne hr (re_callP G_text_of hr tkOf (ra_cons (re_var 2) ra_nil)) (re_var 0)))))) (rss_one rs_no) rss_nil)
    (rss_one (rs_ret (re_var 2)))))))⟩⟩
abbrev s_check_condition : Stmt := top 28
def N_check_condition : List Str := ["condition", "path"]
def m_check_condition : MS :=
    (msSeq (msAsg (mCallP F_wrong_path (mCons (mVar 0) (mCons (mTup mNil) mNil))) (mgName 1))
    (msIf (mTst (mBin (dIsN true) (mVar 1) (mC .non))) msNo msNil))
theorem sc_check_condition : FnScope N_check_condition ["condition"] (defScope s_check_condition) := ⟨rfl, rfl, rfl, by decide +kernel, rfl, by decide +kernel, by decide +kernel⟩
def F_check_condition : PF := runP N_check_condition.length m_check_condition
theorem ok_check_condition (C : CtxT K w mg) : FnP P w K mg base "check_condition" (19) 1 (F_check_condition) := by
  have sc := sc_check_condition
  have G_wrong_path := ok_wrong_path (P := P) (w := w) (base := base) C
  obtain ⟨f, fd, Fd, g⟩ := C.d_check_condition
  exact ⟨⟨f, fd, ["condition"], g, Fd.kp, Fd.bindsN (fun _ _ _ _ _ _ us hl => match us, hl with | [_], _ => rfl), rfl, fnP Fd sc fun cdv A outer s H E hr => (rss_cons (rs_set 1 sc.nd (re_callP G_wrong_path hr tkOf (ra_cons (re_var 0) (ra_cons (re_tup ra_nil) ra_nil))))
    (rss_one (rs_if (rt_isn (re_var 1) re_non) (rss_one rs_no) rss_nil)))⟩⟩
abbrev s_condition_text : Stmt := top 31
def N_condition_text : List Str := ["condition"]
def m_condition_text : MS :=
    (msSeq (msExpr (mCallP F_check_condition (mCons (mVar 0) mNil)))
    (msRet (mCallP F_text_of (mCons (mVar 0) mNil))))
theorem sc_condition_text : FnScope N_condition_text ["condition"] (defScope s_condition_text) := ⟨rfl, rfl, rfl, by decide +kernel, rfl, by decide +kernel, by decide +kernel⟩
def F_condition_text : PF := runP N_condition_text.length m_condition_text
theorem ok_condition_text (C : CtxT K w mg) : FnP P w K mg base "condition_text" (22) 1 (F_condition_text) := by
  have sc := sc_condition_text
  have G_check_condition := ok_check_condition (P := P) (w := w) (base := base) C
  have G_text_of := ok_text_of (P := P) (w := w) (base := base) C
  obtain ⟨f, fd, Fd, g⟩ := C.d_condition_text
  exact ⟨⟨f, fd, ["condition"], g, Fd.kp, Fd.bindsN (fun _ _ _ _ _ _ us hl => match us, hl with | [_], _ => rfl), rfl, fnP Fd sc fun cdv A outer s H E hr => (rss_cons (rs_expr (re_callP G_check_condition hr tkOf (ra_cons (re_var 0) ra_nil)))
    (rss_one (rs_ret (re_callP G_text_of hr tkOf (ra_cons (re_var 0) ra_nil)))))⟩⟩
abbrev s__law_far : Stmt := top 41
def N__law_far : List Str := ["_law_bag", "_law_near_here"]
def m__law_far : MS :=
    (msSeq (msAsg (mCallI F__law_pull (mCons (mVar 0) (mCons (mBin dPow (mC (.int 10)) (mC (.int 9))) mNil))) (mgName 1))
    (msRet (mCallI F__law_any (mCons (mVar 0) (mCons (mLst (mCons (mC (.int 0)) (mCons (mC (.int 1)) (mCons (mBin dSub (mC (.int 0)) (mC (.int 1))) (mCons (mC (.int 2)) (mCons (mBin dSub (mC (.int 5)) (mCallI F__law_pull (mCons (mVar 0) (mCons (mC (.int 11)) mNil)))) (mCons (mBin dSub (mVar 1) (mBin dPow (mC (.int 10)) (mC (.int 8)))) (mCons (mBin dSub (mBin dPow (mC (.int 10)) (mC (.int 30))) (mVar 1)) (mCons (mBin dSub (mVar 1) (mBin dPow (mC (.int 10)) (mC (.int 30)))) mNil))))))))) mNil)))))
theorem sc__law_far : FnScope N__law_far ["_law_bag"] (defScope s__law_far) := ⟨rfl, rfl, rfl, by decide +kernel, rfl, by decide +kernel, by decide +kernel⟩
def F__law_far : IF := runI N__law_far.length m__law_far
theorem ok__law_far (C : CtxT K w mg) : FnI P w K mg base "_law_far" (3) 1 (F__law_far) := by
  have sc := sc__law_far
  have G__law_any := ok__law_any (P := P) (w := w) (base := base) C
  have G__law_pull := ok__law_pull (P := P) (w := w) (base := base) C
  obtain ⟨f, fd, Fd, g⟩ := C.d__law_far
  exact ⟨⟨f, fd, ["_law_bag"], g, Fd.kp, Fd.bindsN (fun _ _ _ _ _ _ us hl => match us, hl with | [_], _ => rfl), rfl, fnI Fd sc fun cdv A outer s H E hr => (rss_cons (rs_set 1 sc.nd (re_callI G__law_pull hr tkOf (ra_cons (re_var 0) (ra_cons (re_pow re_int re_int) ra_nil))))
    (rss_one (rs_ret (re_callI G__law_any hr tkOf (ra_cons (re_var 0) (ra_cons (re_lst (ra_cons re_int (ra_cons re_int (ra_cons (re_sub re_int re_int) (ra_cons re_int (ra_cons (re_sub re_int (re_callI G__law_pull hr tkOf (ra_cons (re_var 0) (ra_cons re_int ra_nil)))) (ra_cons (re_sub (re_var 1) (re_pow re_int re_int)) (ra_cons (re_sub (re_pow re_int re_int) (re_var 1)) (ra_cons (re_sub (re_var 1) (re_pow re_int re_int)) ra_nil))))))))) ra_nil))))))⟩⟩
abbrev s_law : Stmt := top 48
def N_law : List Str := ["_law_script", "_law_bag", "_law_turn", "_law_deep", "_law_k", "_law_names", "_law_pool", "_law_c", "_law_text", "_law_again"]
def mb_law_0 : MS :=
    (msAsg (mCallI F__law_any (mCons (mVar 1) (mCons (mLst (mCons (mTup (mCons (mC (.str [110, 111, 116])) (mCons (mVar 3) mNil))) (mCons (mTup (mCons (mC (.str [97, 110, 100])) (mCons (mVar 3) (mCons (mTup (mCons (mC (.str [116, 114, 117, 101])) mNil)) mNil)))) (mCons (mTup (mCons (mC (.str [111, 114])) (mCons (mTup (mCons (mC (.str [102, 111, 117, 110, 100])) (mCons (mC (.str [97])) mNil))) (mCons (mVar 3) mNil)))) mNil)))) mNil))) (mgName 3))
def mb_law_1 : MS :=
    (msIf (mNot (mTst (mCallP F__law_like (mCons (mLst (mCons (mCallP F_condition_text (mCons (mVar 7) mNil)) (mCons (mCallI F_read_condition (mCons (mVar 8) mNil)) mNil))) (mCons (mLst (mCons (mVar 8) (mCons (mVar 7) mNil))) mNil))))) (msRet (mC (.bl false))) msNil)
def mb_law_2 : MS :=
    (msAsg (mIf (mTst (mBin dEq (mCallI F__law_pull (mCons (mVar 1) (mCons (mC (.int 2)) mNil))) (mC (.int 0)))) (mTup (mCons (mC (.str [97, 110, 100])) (mCons (mTup (mCons (mC (.str [102, 111, 117, 110, 100])) (mCons (mBin dIx (mVar 5) (mC (.int 1))) mNil))) (mCons (mVar 7) mNil)))) (mTup (mCons (mC (.str [111, 114])) (mCons (mVar 7) (mCons (mTup (mCons (mC (.str [110, 111, 116])) (mCons (mTup (mCons (mC (.str [102, 111, 117, 110, 100])) (mCons (mBin dIx (mVar 5) (mC (.int 0))) mNil))) mNil))) mNil))))) (mgName 7))
def mb_law_3 : MS :=
    (msSeq (msAsg (mCallI F__law_new_names (mCons (mVar 1) (mCons (mC (.int 3)) mNil))) (mgName 5))
    (msSeq (msAsg (mLst (mCons (mTup (mCons (mC (.str [110, 97, 109, 101])) (mCons (mBin dIx (mVar 5) (mC (.int 0))) mNil))) (mCons (mTup (mCons (mC (.str [102, 105, 101, 108, 100])) (mCons (mBin dIx (mVar 5) (mC (.int 1))) (mCons (mBin dIx (mVar 5) (mC (.int 2))) mNil)))) (mCons (mTup (mCons (mC (.str [111, 119, 110])) (mCons (mC (.str [107, 101, 121])) mNil))) (mCons (mTup (mCons (mC (.str [111, 119, 110])) (mCons (mBin dIx (mVar 5) (mC (.int 2))) mNil))) (mCons (mTup (mCons (mC (.str [110, 101, 120, 116])) (mCons (mBin dIx (mVar 5) (mC (.int 2))) mNil))) (mCons (mTup (mCons (mC (.str [110, 117, 109, 98, 101, 114])) (mCons (mCallI F__law_far (mCons (mVar 1) mNil)) mNil))) mNil))))))) (mgName 6))
    (msSeq (msAsg (mCallI F__law_some_condition (mCons (mVar 1) (mCons (mVar 6) (mCons (mCallI F__law_pull (mCons (mVar 1) (mCons (mC (.int 5)) mNil))) mNil)))) (mgName 7))
    (msSeq (msFor (miR1 (mCons (mCallI F__law_pull (mCons (mVar 1) (mCons (mC (.int 2)) mNil))) mNil)) (mgName 4) mb_law_2)
    (msSeq (msAsg (mCallP F__law_condition_text (mCons (mVar 7) mNil)) (mgName 8))
    (msSeq (msIf (mTst (mBin dGt (mCall dLen (mCons (mVar 8) mNil)) (mC (.int 3900)))) msCt msNil)
    (msFor (miR1 (mCons (mC (.int 2)) mNil)) (mgName 9) mb_law_1)))))))
def m_law : MS :=
    (msSeq (msAsg (mCallI F__law_draws (mCons (mVar 0) mNil)) (mgName 1))
    (msSeq (msFor (miR1 (mCons (mC (.int 6)) mNil)) (mgName 2) mb_law_3)
    (msSeq (msAsg (mTup (mCons (mC (.str [116, 114, 117, 101])) mNil)) (mgName 3))
    (msSeq (msFor (miR1 (mCons (mC (.int 5)) mNil)) (mgName 4) mb_law_0)
    (msRet (mCallP F__law_like (mCons (mCallI F_read_condition (mCons (mCallP F_condition_text (mCons (mVar 3) mNil)) mNil)) (mCons (mVar 3) mNil))))))))
theorem sc_law : FnScope N_law ["_law_script"] (defScope s_law) := ⟨rfl, rfl, rfl, by decide +kernel, rfl, by decide +kernel, by decide +kernel⟩
def F_law : IF := runI N_law.length m_law
theorem ok_law (C : CtxT K w mg) : ∃ f fd, mg "law" = some (.ref f) ∧ (∀ (s : Shared) (u : Value), BindsTo s fd ⟨[u], []⟩ [("_law_script", u)]) ∧ ∀ base : Heap, FnOk P w K mg base (L2.CX P w) 37 f fd ["_law_script"] (SpI K mg 1 F_law) := by
  have sc := sc_law
  obtain ⟨f, fd, Fd, g⟩ := C.d_law
  refine ⟨f, fd, g, fun s u => FunD.bindsA (ps := ["_law_script"]) Fd (fun _ _ _ _ _ _ us hl => match us, hl with | [_], _ => rfl) s [u] rfl, fun base => ?_⟩
  have G__law_any := ok__law_any (P := P) (w := w) (base := base) C
  have G__law_condition_text := ok__law_condition_text (P := P) (w := w) (base := base) C
  have G__law_draws := ok__law_draws (P := P) (w := w) (base := base) C
  have G__law_far := ok__law_far (P := P) (w := w) (base := base) C
  have G__law_like := ok__law_like (P := P) (w := w) (base := base) C
  have G__law_new_names := ok__law_new_names (P := P) (w := w) (base := base) C
  have G__law_pull := ok__law_pull (P := P) (w := w) (base := base) C
  have G__law_some_condition := ok__law_some_condition (P := P) (w := w) (base := base) C
  have G_condition_text := ok_condition_text (P := P) (w := w) (base := base) C
  have G_read_condition := ok_read_condition (P := P) (w := w) (base := base) C
  exact fnI Fd sc fun cdv A outer s H E hr => (rss_cons (rs_set 1 sc.nd (re_callI G__law_draws hr tkOf (ra_cons (re_var 0) ra_nil)))
    (rss_cons (rs_for poOf rfl (ri_range1 C.n_range (ra_cons re_int ra_nil)) (rg_name 2 sc.nd) (rss_cons (rs_set 5 sc.nd (re_callI G__law_new_names hr tkOf (ra_cons (re_var 1) (ra_cons re_int ra_nil))))
    (rss_cons (rs_set 6 sc.nd (re_lst (ra_cons (re_tup (ra_cons (re_str [110, 97, 109, 101]) (ra_cons (re_ix (re_var 5) re_int) ra_nil))) (ra_cons (re_tup (ra_cons (re_str [102, 105, 101, 108, 100]) (ra_cons (re_ix (re_var 5) re_int) (ra_cons (re_ix (re_var 5) re_int) ra_nil)))) (ra_cons (re_tup (ra_cons (re_str [111, 119, 110]) (ra_cons (re_str [107, 101, 121]) ra_nil))) (ra_cons (re_tup (ra_cons (re_str [111, 119, 110]) (ra_cons (re_ix (re_var 5) re_int) ra_nil))) (ra_cons (re_tup (ra_cons (re_str [110, 101, 120, 116]) (ra_cons (re_ix (re_var 5) re_int) ra_nil))) (ra_cons (re_tup (ra_cons (re_str [110, 117, 109, 98, 101, 114]) (ra_cons (re_callI G__law_far hr tkOf (ra_cons (re_var 1) ra_nil)) ra_nil))) ra_nil))))))))
    (rss_cons (rs_set 7 sc.nd (re_callI G__law_some_condition hr tkOf (ra_cons (re_var 1) (ra_cons (re_var 6) (ra_cons (re_callI G__law_pull hr tkOf (ra_cons (re_var 1) (ra_cons re_int ra_nil))) ra_nil)))))
    (rss_cons (rs_for poOf rfl (ri_range1 C.n_range (ra_cons (re_callI G__law_pull hr tkOf (ra_cons (re_var 1) (ra_cons re_int ra_nil))) ra_nil)) (rg_name 4 sc.nd) (rss_one (rs_set 7 sc.nd (re_if (rt_eq hr (re_callI G__law_pull hr tkOf (ra_cons (re_var 1) (ra_cons re_int ra_nil))) re_int) (re_tup (ra_cons (re_str [97, 110, 100]) (ra_cons (re_tup (ra_cons (re_str [102, 111, 117, 110, 100]) (ra_cons (re_ix (re_var 5) re_int) ra_nil))) (ra_cons (re_var 7) ra_nil)))) (re_tup (ra_cons (re_str [111, 114]) (ra_cons (re_var 7) (ra_cons (re_tup (ra_cons (re_str [110, 111, 116]) (ra_cons (re_tup (ra_cons (re_str [102, 111, 117, 110, 100]) (ra_cons (re_ix (re_var 5) re_int) ra_nil))) ra_nil))) ra_nil))))))))
    (rss_cons (rs_set 8 sc.nd (re_callP G__law_condition_text hr tkOf (ra_cons (re_var 7) ra_nil)))
    (rss_cons (rs_if (rt_gt (re_len C.n_len (ra_cons (re_var 8) ra_nil)) re_int) (rss_one rs_continue) rss_nil)
    (rss_one (rs_for poOf rfl (ri_range1 C.n_range (ra_cons re_int ra_nil)) (rg_name 9 sc.nd) (rss_one (rs_if (rt_not (rt_val (re_callP G__law_like hr tkOf (ra_cons (re_lst (ra_cons (re_callP G_condition_text hr tkOf (ra_cons (re_var 7) ra_nil)) (ra_cons (re_callI G_read_condition hr tkOf (ra_cons (re_var 8) ra_nil)) ra_nil))) (ra_cons (re_lst (ra_cons (re_var 8) (ra_cons (re_var 7) ra_nil))) ra_nil))))) (rss_one (rs_ret re_bl)) rss_nil)))))))))))
    (rss_cons (rs_set 3 sc.nd (re_tup (ra_cons (re_str [116, 114, 117, 101]) ra_nil)))
    (rss_cons (rs_for poOf rfl (ri_range1 C.n_range (ra_cons re_int ra_nil)) (rg_name 4 sc.nd) (rss_one (rs_set 3 sc.nd (re_callI G__law_any hr tkOf (ra_cons (re_var 1) (ra_cons (re_lst (ra_cons (re_tup (ra_cons (re_str [110, 111, 116]) (ra_cons (re_var 3) ra_nil))) (ra_cons (re_tup (ra_cons (re_str [97, 110, 100]) (ra_cons (re_var 3) (ra_cons (re_tup (ra_cons (re_str [116, 114, 117, 101]) ra_nil)) ra_nil)))) (ra_cons (re_tup (ra_cons (re_str [111, 114]) (ra_cons (re_tup (ra_cons (re_str [102, 111, 117, 110, 100]) (ra_cons (re_str [97]) ra_nil))) (ra_cons (re_var 3) ra_nil)))) ra_nil)))) ra_nil))))))
    (rss_one (rs_ret (re_callP G__law_like hr tkOf (ra_cons (re_callI G_read_condition hr tkOf (ra_cons (re_callP G_condition_text hr tkOf (ra_cons (re_var 3) ra_nil)) ra_nil)) (ra_cons (re_var 3) ra_nil)))))))))
end
end K05

namespace K05
open PySem PySem.Spec PyProof.Rows L2 PD
/-! ### the head -/
def dd__law_draws : He.DefD := ⟨("_law_draws", none), "_law_draws", "_law_draws", defArgs s__law_draws, defBody s__law_draws, defScope s__law_draws, [], []⟩
def dd__law_like : He.DefD := ⟨("_law_like", none), "_law_like", "_law_like", defArgs s__law_like, defBody s__law_like, defScope s__law_like, [], []⟩
def dd__law_pull : He.DefD := ⟨("_law_pull", none), "_law_pull", "_law_pull", defArgs s__law_pull, defBody s__law_pull, defScope s__law_pull, [], []⟩
def dd__law_any : He.DefD := ⟨("_law_any", none), "_law_any", "_law_any", defArgs s__law_any, defBody s__law_any, defScope s__law_any, [], []⟩
def dd__law_reserved : He.DefD := ⟨("_law_reserved", none), "_law_reserved", "_law_reserved", defArgs s__law_reserved, defBody s__law_reserved, defScope s__law_reserved, [], []⟩
def dd__law_new_names : He.DefD := ⟨("_law_new_names", none), "_law_new_names", "_law_new_names", defArgs s__law_new_names, defBody s__law_new_names, defScope s__law_new_names, [], []⟩
def dd__law_near : He.DefD := ⟨("_law_near", none), "_law_near", "_law_near", defArgs s__law_near, defBody s__law_near, defScope s__law_near, [], []⟩
def dd__law_some_value : He.DefD := ⟨("_law_some_value", none), "_law_some_value", "_law_some_value", defArgs s__law_some_value, defBody s__law_some_value, defScope s__law_some_value, [], []⟩
def dd__law_some_compared : He.DefD := ⟨("_law_some_compared", none), "_law_some_compared", "_law_some_compared", defArgs s__law_some_compared, defBody s__law_some_compared, defScope s__law_some_compared, [], []⟩
def dd__law_some_condition : He.DefD := ⟨("_law_some_condition", none), "_law_some_condition", "_law_some_condition", defArgs s__law_some_condition, defBody s__law_some_condition, defScope s__law_some_condition, [], []⟩
def dd__law_value_text : He.DefD := ⟨("_law_value_text", none), "_law_value_text", "_law_value_text", defArgs s__law_value_text, defBody s__law_value_text, defScope s__law_value_text, [], []⟩
def dd__law_condition_text : He.DefD := ⟨("_law_condition_text", none), "_law_condition_text", "_law_condition_text", defArgs s__law_condition_text, defBody s__law_condition_text, defScope s__law_condition_text, [], []⟩
def dd_ConditionReader_init : He.DefD := ⟨("ConditionReader", some "__init__"), "__init__", "ConditionReader.__init__", defArgs s_ConditionReader_init, defBody s_ConditionReader_init, defScope s_ConditionReader_init, [], []⟩
def dd_ConditionReader_comes : He.DefD := ⟨("ConditionReader", some "comes"), "comes", "ConditionReader.comes", defArgs s_ConditionReader_comes, defBody s_ConditionReader_comes, defScope s_ConditionReader_comes, [], []⟩
def dd_ConditionReader_signs : He.DefD := ⟨("ConditionReader", some "signs"), "signs", "ConditionReader.signs", defArgs s_ConditionReader_signs, defBody s_ConditionReader_signs, defScope s_ConditionReader_signs, [], []⟩
def dd_is_integer : He.DefD := ⟨("is_integer", none), "is_integer", "is_integer", defArgs s_is_integer, defBody s_is_integer, defScope s_is_integer, [], []⟩
def dd_is_constant : He.DefD := ⟨("is_constant", none), "is_constant", "is_constant", defArgs s_is_constant, defBody s_is_constant, defScope s_is_constant, [], []⟩
def dd_is_name : He.DefD := ⟨("is_name", none), "is_name", "is_name", defArgs s_is_name, defBody s_is_name, defScope s_is_name, [], []⟩
def dd_is_column : He.DefD := ⟨("is_column", none), "is_column", "is_column", defArgs s_is_column, defBody s_is_column, defScope s_is_column, [], []⟩
def dd_is_plain : He.DefD := ⟨("is_plain", none), "is_plain", "is_plain", defArgs s_is_plain, defBody s_is_plain, defScope s_is_plain, [], []⟩
def dd_integer_in : He.DefD := ⟨("integer_in", none), "integer_in", "integer_in", defArgs s_integer_in, defBody s_integer_in, defScope s_integer_in, [], [("most", .int 31)]⟩
def dd_plain_in : He.DefD := ⟨("plain_in", none), "plain_in", "plain_in", defArgs s_plain_in, defBody s_plain_in, defScope s_plain_in, [], []⟩
def dd_is_value : He.DefD := ⟨("is_value", none), "is_value", "is_value", defArgs s_is_value, defBody s_is_value, defScope s_is_value, [], []⟩
def dd_integer_text : He.DefD := ⟨("integer_text", none), "integer_text", "integer_text", defArgs s_integer_text, defBody s_integer_text, defScope s_integer_text, [], []⟩
def dd_value_text : He.DefD := ⟨("value_text", none), "value_text", "value_text", defArgs s_value_text, defBody s_value_text, defScope s_value_text, [], []⟩
def dd_read_value : He.DefD := ⟨("read_value", none), "read_value", "read_value", defArgs s_read_value, defBody s_read_value, defScope s_read_value, [], []⟩
def dd_ConditionReader_value : He.DefD := ⟨("ConditionReader", some "value"), "value", "ConditionReader.value", defArgs s_ConditionReader_value, defBody s_ConditionReader_value, defScope s_ConditionReader_value, [], []⟩
def dd_ConditionReader_comparison : He.DefD := ⟨("ConditionReader", some "comparison"), "comparison", "ConditionReader.comparison", defArgs s_ConditionReader_comparison, defBody s_ConditionReader_comparison, defScope s_ConditionReader_comparison, [], []⟩
def dd_ConditionReader_joined : He.DefD := ⟨("ConditionReader", some "joined"), "joined", "ConditionReader.joined", defArgs s_ConditionReader_joined, defBody s_ConditionReader_joined, defScope s_ConditionReader_joined, [], []⟩
def dd_ConditionReader_condition : He.DefD := ⟨("ConditionReader", some "condition"), "condition", "ConditionReader.condition", defArgs s_ConditionReader_condition, defBody s_ConditionReader_condition, defScope s_ConditionReader_condition, [], []⟩
def dd_inner_parts : He.DefD := ⟨("inner_parts", none), "inner_parts", "inner_parts", defArgs s_inner_parts, defBody s_inner_parts, defScope s_inner_parts, [], []⟩
def dd_has_form : He.DefD := ⟨("has_form", none), "has_form", "has_form", defArgs s_has_form, defBody s_has_form, defScope s_has_form, [], []⟩
def dd_wrong_path : He.DefD := ⟨("wrong_path", none), "wrong_path", "wrong_path", defArgs s_wrong_path, defBody s_wrong_path, defScope s_wrong_path, [], []⟩
def dd_is_condition : He.DefD := ⟨("is_condition", none), "is_condition", "is_condition", defArgs s_is_condition, defBody s_is_condition, defScope s_is_condition, [], []⟩
def dd_text_of : He.DefD := ⟨("text_of", none), "text_of", "text_of", defArgs s_text_of, defBody s_text_of, defScope s_text_of, [], []⟩
def dd_read_condition : He.DefD := ⟨("read_condition", none), "read_condition", "read_condition", defArgs s_read_condition, defBody s_read_condition, defScope s_read_condition, [], []⟩
def dd_check_condition : He.DefD := ⟨("check_condition", none), "check_condition", "check_condition", defArgs s_check_condition, defBody s_check_condition, defScope s_check_condition, [], []⟩
def dd_condition_text : He.DefD := ⟨("condition_text", none), "condition_text", "condition_text", defArgs s_condition_text, defBody s_condition_text, defScope s_condition_text, [], []⟩
def dd__law_far : He.DefD := ⟨("_law_far", none), "_law_far", "_law_far", defArgs s__law_far, defBody s__law_far, defScope s__law_far, [], []⟩
def dd_law : He.DefD := ⟨("law", none), "law", "law", defArgs s_law, defBody s_law, defScope s_law, [], []⟩
def fn : List He.DefD := [dd__law_draws, dd__law_like, dd__law_pull, dd__law_any, dd__law_reserved, dd__law_new_names, dd__law_near, dd__law_some_value, dd__law_some_compared, dd__law_some_condition, dd__law_value_text, dd__law_condition_text, dd_ConditionReader_init, dd_ConditionReader_comes, dd_ConditionReader_signs, dd_is_integer, dd_is_constant, dd_is_name, dd_is_column, dd_is_plain, dd_integer_in, dd_plain_in, dd_is_value, dd_integer_text, dd_value_text, dd_read_value, dd_ConditionReader_value, dd_ConditionReader_comparison, dd_ConditionReader_joined, dd_ConditionReader_condition, dd_inner_parts, dd_has_form, dd_wrong_path, dd_is_condition, dd_text_of, dd_read_condition, dd_check_condition, dd_condition_text, dd__law_far, dd_law]
def fa : List He.Fa := [.glo "_law_draws", .glo "_law_like", .glo "_law_pull", .glo "_law_any", .glo "_law_reserved", .glo "_law_new_names", .glo "_law_near", .glo "_law_some_value", .glo "_law_some_compared", .glo "_law_some_condition", .glo "_law_value_text", .glo "_law_condition_text", .glo "is_integer", .glo "is_constant", .glo "is_name", .glo "is_column", .glo "is_plain", .glo "integer_in", .glo "plain_in", .glo "is_value", .glo "integer_text", .glo "value_text", .glo "read_value", .glo "inner_parts", .glo "has_form", .glo "wrong_path", .glo "is_condition", .glo "text_of", .glo "read_condition", .glo "check_condition", .glo "condition_text", .glo "_law_far", .glo "law", .free "list", .free "int", .free "isinstance", .free "str", .free "bool", .free "tuple", .free "zip", .free "all", .free "len", .free "range", .glo "ConditionReader", .cls "ConditionReader", .noat "ConditionReader" "spot", .noat "ConditionReader" "source", .mkr "ConditionReader", .meth "ConditionReader" "comes", .meth "ConditionReader" "signs", .meth "ConditionReader" "value", .meth "ConditionReader" "comparison", .meth "ConditionReader" "joined", .meth "ConditionReader" "condition"]
def gs : List (Str × D) := [("GREATEST", g_GREATEST), ("LETTERS", g_LETTERS), ("RESERVED", g_RESERVED), ("DIGITS", g_DIGITS), ("JOINTS", g_JOINTS), ("MOST_DEPTH", g_MOST_DEPTH)]
def dsL : List DicD := [("SIGNS", kv_SIGNS)]
abbrev R : PySem.W.OpenRow := PySem.W.OpenLaw.row PySem.Challenge.rw_lookedrows_k05_texts_of_conditions
def hk : PySem.W.Hook := hookG2 6 fa fn gs dsL
def ob (s : PySem.W.SharedT) : AlG2 := obsGG2 6 fa fn gs dsL (HandSHeadRun.getT s)
theorem ob_eq (s : PySem.W.SharedT) : ob s = hk.obs s.abs := obsGG2_eq (HandSHeadRun.getT_eq s)
def loose0 : List Str := ["TableError", "InvalidValue", "InvalidCondition", "InvalidText", "LETTERS", "DIGITS", "RESERVED", "GREATEST", "is_name", "is_integer", "is_constant", "is_column", "is_plain", "is_value", "integer_text", "value_text", "integer_in", "plain_in", "read_value", "MOST_DEPTH", "SIGNS", "JOINTS", "has_form", "inner_parts", "wrong_path", "check_condition", "is_condition", "text_of", "condition_text", "ConditionReader"]
def loose1 : List Str := ["read_condition", "_law_draws", "_law_pull", "_law_any", "_law_like", "_law_reserved", "_law_new_names", "_law_far", "_law_near", "_law_value_text", "_law_condition_text", "_law_some_value", "_law_some_compared", "_law_some_condition"]
abbrev loose : List Str := loose0 ++ loose1
theorem run (w : World) : HandSHeadRun.RunEq R (PySem.W.view R.prog [48]) hk ob 6000 loose w := PySem.W.byRow2 "special-get-raises" (P := fun w => HandSHeadRun.RunEq R (PySem.W.view R.prog [48]) hk ob 6000 loose w) (fun w os => by kernel_rfl) (fun w os => by kernel_rfl) w
theorem ctx {K : PySem.W.Frag} {h : Heap} {mg : Str → Option Value} (X : K.In h) (G : h.Ns mainGlobals mg) {w : World} (c : SaysG2 fa fn gs dsL w K) : CtxT K w mg where
  d__law_draws := (fun ⟨fd, F⟩ => ⟨_, fd, F, He.glo_ok X G (SaysD.facts' c.g.d (f := .glo "_law_draws") (by simp [fa]))⟩) (SaysD.def' c.g.d (d := dd__law_draws) (by simp [fn]))
  d__law_like := (fun ⟨fd, F⟩ => ⟨_, fd, F, He.glo_ok X G (SaysD.facts' c.g.d (f := .glo "_law_like") (by simp [fa]))⟩) (SaysD.def' c.g.d (d := dd__law_like) (by simp [fn]))
  d__law_pull := (fun ⟨fd, F⟩ => ⟨_, fd, F, He.glo_ok X G (SaysD.facts' c.g.d (f := .glo "_law_pull") (by simp [fa]))⟩) (SaysD.def' c.g.d (d := dd__law_pull) (by simp [fn]))
  d__law_any := (fun ⟨fd, F⟩ => ⟨_, fd, F, He.glo_ok X G (SaysD.facts' c.g.d (f := .glo "_law_any") (by simp [fa]))⟩) (SaysD.def' c.g.d (d := dd__law_any) (by simp [fn]))
  d__law_reserved := (fun ⟨fd, F⟩ => ⟨_, fd, F, He.glo_ok X G (SaysD.facts' c.g.d (f := .glo "_law_reserved") (by simp [fa]))⟩) (SaysD.def' c.g.d (d := dd__law_reserved) (by simp [fn]))
  d__law_new_names := (fun ⟨fd, F⟩ => ⟨_, fd, F, He.glo_ok X G (SaysD.facts' c.g.d (f := .glo "_law_new_names") (by simp [fa]))⟩) (SaysD.def' c.g.d (d := dd__law_new_names) (by simp [fn]))
  d__law_near := (fun ⟨fd, F⟩ => ⟨_, fd, F, He.glo_ok X G (SaysD.facts' c.g.d (f := .glo "_law_near") (by simp [fa]))⟩) (SaysD.def' c.g.d (d := dd__law_near) (by simp [fn]))
  d__law_some_value := (fun ⟨fd, F⟩ => ⟨_, fd, F, He.glo_ok X G (SaysD.facts' c.g.d (f := .glo "_law_some_value") (by simp [fa]))⟩) (SaysD.def' c.g.d (d := dd__law_some_value) (by simp [fn]))
  d__law_some_compared := (fun ⟨fd, F⟩ => ⟨_, fd, F, He.glo_ok X G (SaysD.facts' c.g.d (f := .glo "_law_some_compared") (by simp [fa]))⟩) (SaysD.def' c.g.d (d := dd__law_some_compared) (by simp [fn]))
  d__law_some_condition := (fun ⟨fd, F⟩ => ⟨_, fd, F, He.glo_ok X G (SaysD.facts' c.g.d (f := .glo "_law_some_condition") (by simp [fa]))⟩) (SaysD.def' c.g.d (d := dd__law_some_condition) (by simp [fn]))
  d__law_value_text := (fun ⟨fd, F⟩ => ⟨_, fd, F, He.glo_ok X G (SaysD.facts' c.g.d (f := .glo "_law_value_text") (by simp [fa]))⟩) (SaysD.def' c.g.d (d := dd__law_value_text) (by simp [fn]))
  d__law_condition_text := (fun ⟨fd, F⟩ => ⟨_, fd, F, He.glo_ok X G (SaysD.facts' c.g.d (f := .glo "_law_condition_text") (by simp [fa]))⟩) (SaysD.def' c.g.d (d := dd__law_condition_text) (by simp [fn]))
  d_ConditionReader_init := (fun ⟨fd, F⟩ => ⟨_, _, fd, He.glo_ok X G (SaysD.facts' c.g.d (f := .glo "ConditionReader") (by simp [fa])), He.cls_ok (SaysD.facts' c.g.d (f := .cls "ConditionReader") (by simp [fa])), He.mkr_ok (SaysD.facts' c.g.d (f := .mkr "ConditionReader") (by simp [fa])), F⟩) (SaysD.def' c.g.d (d := dd_ConditionReader_init) (by simp [fn]))
  d_ConditionReader_comes := (fun ⟨fd, F⟩ => ⟨_, _, fd, He.glo_ok X G (SaysD.facts' c.g.d (f := .glo "ConditionReader") (by simp [fa])), He.cls_ok (SaysD.facts' c.g.d (f := .cls "ConditionReader") (by simp [fa])), He.meth_ok (SaysD.facts' c.g.d (f := .meth "ConditionReader" "comes") (by simp [fa])), F⟩) (SaysD.def' c.g.d (d := dd_ConditionReader_comes) (by simp [fn]))
  d_ConditionReader_signs := (fun ⟨fd, F⟩ => ⟨_, _, fd, He.glo_ok X G (SaysD.facts' c.g.d (f := .glo "ConditionReader") (by simp [fa])), He.cls_ok (SaysD.facts' c.g.d (f := .cls "ConditionReader") (by simp [fa])), He.meth_ok (SaysD.facts' c.g.d (f := .meth "ConditionReader" "signs") (by simp [fa])), F⟩) (SaysD.def' c.g.d (d := dd_ConditionReader_signs) (by simp [fn]))
  d_is_integer := (fun ⟨fd, F⟩ => ⟨_, fd, F, He.glo_ok X G (SaysD.facts' c.g.d (f := .glo "is_integer") (by simp [fa]))⟩) (SaysD.def' c.g.d (d := dd_is_integer) (by simp [fn]))
  d_is_constant := (fun ⟨fd, F⟩ => ⟨_, fd, F, He.glo_ok X G (SaysD.facts' c.g.d (f := .glo "is_constant") (by simp [fa]))⟩) (SaysD.def' c.g.d (d := dd_is_constant) (by simp [fn]))
  d_is_name := (fun ⟨fd, F⟩ => ⟨_, fd, F, He.glo_ok X G (SaysD.facts' c.g.d (f := .glo "is_name") (by simp [fa]))⟩) (SaysD.def' c.g.d (d := dd_is_name) (by simp [fn]))
  d_is_column := (fun ⟨fd, F⟩ => ⟨_, fd, F, He.glo_ok X G (SaysD.facts' c.g.d (f := .glo "is_column") (by simp [fa]))⟩) (SaysD.def' c.g.d (d := dd_is_column) (by simp [fn]))
  d_is_plain := (fun ⟨fd, F⟩ => ⟨_, fd, F, He.glo_ok X G (SaysD.facts' c.g.d (f := .glo "is_plain") (by simp [fa]))⟩) (SaysD.def' c.g.d (d := dd_is_plain) (by simp [fn]))
  d_integer_in := (fun ⟨fd, F⟩ => ⟨_, fd, F, He.glo_ok X G (SaysD.facts' c.g.d (f := .glo "integer_in") (by simp [fa]))⟩) (SaysD.def' c.g.d (d := dd_integer_in) (by simp [fn]))
  d_plain_in := (fun ⟨fd, F⟩ => ⟨_, fd, F, He.glo_ok X G (SaysD.facts' c.g.d (f := .glo "plain_in") (by simp [fa]))⟩) (SaysD.def' c.g.d (d := dd_plain_in) (by simp [fn]))
  d_is_value := (fun ⟨fd, F⟩ => ⟨_, fd, F, He.glo_ok X G (SaysD.facts' c.g.d (f := .glo "is_value") (by simp [fa]))⟩) (SaysD.def' c.g.d (d := dd_is_value) (by simp [fn]))
  d_integer_text := (fun ⟨fd, F⟩ => ⟨_, fd, F, He.glo_ok X G (SaysD.facts' c.g.d (f := .glo "integer_text") (by simp [fa]))⟩) (SaysD.def' c.g.d (d := dd_integer_text) (by simp [fn]))
  d_value_text := (fun ⟨fd, F⟩ => ⟨_, fd, F, He.glo_ok X G (SaysD.facts' c.g.d (f := .glo "value_text") (by simp [fa]))⟩) (SaysD.def' c.g.d (d := dd_value_text) (by simp [fn]))
  d_read_value := (fun ⟨fd, F⟩ => ⟨_, fd, F, He.glo_ok X G (SaysD.facts' c.g.d (f := .glo "read_value") (by simp [fa]))⟩) (SaysD.def' c.g.d (d := dd_read_value) (by simp [fn]))
  d_ConditionReader_value := (fun ⟨fd, F⟩ => ⟨_, _, fd, He.glo_ok X G (SaysD.facts' c.g.d (f := .glo "ConditionReader") (by simp [fa])), He.cls_ok (SaysD.facts' c.g.d (f := .cls "ConditionReader") (by simp [fa])), He.meth_ok (SaysD.facts' c.g.d (f := .meth "ConditionReader" "value") (by simp [fa])), F⟩) (SaysD.def' c.g.d (d := dd_ConditionReader_value) (by simp [fn]))
  d_ConditionReader_comparison := (fun ⟨fd, F⟩ => ⟨_, _, fd, He.glo_ok X G (SaysD.facts' c.g.d (f := .glo "ConditionReader") (by simp [fa])), He.cls_ok (SaysD.facts' c.g.d (f := .cls "ConditionReader") (by simp [fa])), He.meth_ok (SaysD.facts' c.g.d (f := .meth "ConditionReader" "comparison") (by simp [fa])), F⟩) (SaysD.def' c.g.d (d := dd_ConditionReader_comparison) (by simp [fn]))
  d_ConditionReader_joined := (fun ⟨fd, F⟩ => ⟨_, _, fd, He.glo_ok X G (SaysD.facts' c.g.d (f := .glo "ConditionReader") (by simp [fa])), He.cls_ok (SaysD.facts' c.g.d (f := .cls "ConditionReader") (by simp [fa])), He.meth_ok (SaysD.facts' c.g.d (f := .meth "ConditionReader" "joined") (by simp [fa])), F⟩) (SaysD.def' c.g.d (d := dd_ConditionReader_joined) (by simp [fn]))
  d_ConditionReader_condition := (fun ⟨fd, F⟩ => ⟨_, _, fd, He.glo_ok X G (SaysD.facts' c.g.d (f := .glo "ConditionReader") (by simp [fa])), He.cls_ok (SaysD.facts' c.g.d (f := .cls "ConditionReader") (by simp [fa])), He.meth_ok (SaysD.facts' c.g.d (f := .meth "ConditionReader" "condition") (by simp [fa])), F⟩) (SaysD.def' c.g.d (d := dd_ConditionReader_condition) (by simp [fn]))
  d_inner_parts := (fun ⟨fd, F⟩ => ⟨_, fd, F, He.glo_ok X G (SaysD.facts' c.g.d (f := .glo "inner_parts") (by simp [fa]))⟩) (SaysD.def' c.g.d (d := dd_inner_parts) (by simp [fn]))
  d_has_form := (fun ⟨fd, F⟩ => ⟨_, fd, F, He.glo_ok X G (SaysD.facts' c.g.d (f := .glo "has_form") (by simp [fa]))⟩) (SaysD.def' c.g.d (d := dd_has_form) (by simp [fn]))
  d_wrong_path := (fun ⟨fd, F⟩ => ⟨_, fd, F, He.glo_ok X G (SaysD.facts' c.g.d (f := .glo "wrong_path") (by simp [fa]))⟩) (SaysD.def' c.g.d (d := dd_wrong_path) (by simp [fn]))
  d_is_condition := (fun ⟨fd, F⟩ => ⟨_, fd, F, He.glo_ok X G (SaysD.facts' c.g.d (f := .glo "is_condition") (by simp [fa]))⟩) (SaysD.def' c.g.d (d := dd_is_condition) (by simp [fn]))
  d_text_of := (fun ⟨fd, F⟩ => ⟨_, fd, F, He.glo_ok X G (SaysD.facts' c.g.d (f := .glo "text_of") (by simp [fa]))⟩) (SaysD.def' c.g.d (d := dd_text_of) (by simp [fn]))
  d_read_condition := (fun ⟨fd, F⟩ => ⟨_, fd, F, He.glo_ok X G (SaysD.facts' c.g.d (f := .glo "read_condition") (by simp [fa]))⟩) (SaysD.def' c.g.d (d := dd_read_condition) (by simp [fn]))
  d_check_condition := (fun ⟨fd, F⟩ => ⟨_, fd, F, He.glo_ok X G (SaysD.facts' c.g.d (f := .glo "check_condition") (by simp [fa]))⟩) (SaysD.def' c.g.d (d := dd_check_condition) (by simp [fn]))
  d_condition_text := (fun ⟨fd, F⟩ => ⟨_, fd, F, He.glo_ok X G (SaysD.facts' c.g.d (f := .glo "condition_text") (by simp [fa]))⟩) (SaysD.def' c.g.d (d := dd_condition_text) (by simp [fn]))
  d__law_far := (fun ⟨fd, F⟩ => ⟨_, fd, F, He.glo_ok X G (SaysD.facts' c.g.d (f := .glo "_law_far") (by simp [fa]))⟩) (SaysD.def' c.g.d (d := dd__law_far) (by simp [fn]))
  d_law := (fun ⟨fd, F⟩ => ⟨_, fd, F, He.glo_ok X G (SaysD.facts' c.g.d (f := .glo "law") (by simp [fa]))⟩) (SaysD.def' c.g.d (d := dd_law) (by simp [fn]))
  n_list := He.free_ok X G (SaysD.facts' c.g.d (f := .free "list") (by simp [fa]))
  n_int := He.free_ok X G (SaysD.facts' c.g.d (f := .free "int") (by simp [fa]))
  n_isinstance := He.free_ok X G (SaysD.facts' c.g.d (f := .free "isinstance") (by simp [fa]))
  n_str := He.free_ok X G (SaysD.facts' c.g.d (f := .free "str") (by simp [fa]))
  n_bool := He.free_ok X G (SaysD.facts' c.g.d (f := .free "bool") (by simp [fa]))
  n_tuple := He.free_ok X G (SaysD.facts' c.g.d (f := .free "tuple") (by simp [fa]))
  n_zip := He.free_ok X G (SaysD.facts' c.g.d (f := .free "zip") (by simp [fa]))
  n_all := He.free_ok X G (SaysD.facts' c.g.d (f := .free "all") (by simp [fa]))
  n_len := He.free_ok X G (SaysD.facts' c.g.d (f := .free "len") (by simp [fa]))
  n_range := He.free_ok X G (SaysD.facts' c.g.d (f := .free "range") (by simp [fa]))
  c_GREATEST := globC_of X G (c.g.glob (p := ("GREATEST", g_GREATEST)) (by simp [gs]))
  c_LETTERS := globC_of X G (c.g.glob (p := ("LETTERS", g_LETTERS)) (by simp [gs]))
  c_RESERVED := globC_of X G (c.g.glob (p := ("RESERVED", g_RESERVED)) (by simp [gs]))
  c_DIGITS := globC_of X G (c.g.glob (p := ("DIGITS", g_DIGITS)) (by simp [gs]))
  c_JOINTS := globC_of X G (c.g.glob (p := ("JOINTS", g_JOINTS)) (by simp [gs]))
  c_MOST_DEPTH := globC_of X G (c.g.glob (p := ("MOST_DEPTH", g_MOST_DEPTH)) (by simp [gs]))
  e_SIGNS := c.dic X G (p := ("SIGNS", kv_SIGNS)) (by simp [dsL])
  a_ConditionReader_spot := ⟨_, He.glo_ok X G (SaysD.facts' c.g.d (f := .glo "ConditionReader") (by simp [fa])), He.cls_ok (SaysD.facts' c.g.d (f := .cls "ConditionReader") (by simp [fa])), He.noat_ok (SaysD.facts' c.g.d (f := .noat "ConditionReader" "spot") (by simp [fa]))⟩
  a_ConditionReader_source := ⟨_, He.glo_ok X G (SaysD.facts' c.g.d (f := .glo "ConditionReader") (by simp [fa])), He.cls_ok (SaysD.facts' c.g.d (f := .cls "ConditionReader") (by simp [fa])), He.noat_ok (SaysD.facts' c.g.d (f := .noat "ConditionReader" "source") (by simp [fa]))⟩
theorem fin (math : ∀ ns : List Int, ns.length ≤ 63 → (∀ z ∈ ns, Builtin.Int.intBits z ≤ 1048576) → ∃ h', F_law [.scr (ns.map .int)] [] = some (.ok (.bl true), h')) :
    PySem.W.WalkO (PySem.W.view R.prog [48]) loose (PySem.W.XL (PySem.W.view R.prog [48]) []) hk.says R.toRowW (HandSHeadRun.topDef R.prog 48) [] (fun f vs => PySem.call f vs) := by
  refine walk_pd (l := PySem.Challenge.rw_lookedrows_k05_texts_of_conditions) (n := 63) (k := 37) (x := "_law_script") rfl (by decide) (by kernel_rfl) ⟨rfl, by decide, by decide⟩ ?_ math
  intro w mg fa h Y G hmg0
  obtain ⟨K, KX, c⟩ := Y
  have hmg : mg ("law" : PySem.Str) = some (.ref fa) := by
    have e : (HandSHeadRun.topDef R.prog 48).name = ("law" : PySem.Str) := by kernel_rfl
    rw [← e]
    exact hmg0
  obtain ⟨f, fd, g, hb, hF⟩ := ok_law (P := (PySem.Challenge.rw_lookedrows_k05_texts_of_conditions).prog) (w := w) (ctx KX G c)
  have ef : fa = f := by
    have := hmg.symm.trans g
    cases this
    rfl
  subst ef
  exact ⟨K, fd, KX, hb, hF⟩
end K05


namespace PV
open PySem PD
theorem okD_v : ∀ v : Vl, okD 3 v.d = true
  | .pl (.num _) => rfl
  | .pl (.name _) => rfl
  | .pl (.field _ _) => rfl
  | .pl (.own _) => rfl
  | .pl (.next _) => rfl
  | .plus (.num _) _ => rfl
  | .plus (.name _) _ => rfl
  | .plus (.field _ _) _ => rfl
  | .plus (.own _) _ => rfl
  | .plus (.next _) _ => rfl
theorem okD_tup2 {t : Nat} {a b : D} (ha : okD t a = true) (hb : okD t b = true) : okD (t + 1) (.tup [a, b]) = true := by
  show (decide (2 ≤ 16777216) && (okD t a && (okD t b && true))) = true
  rw [ha, hb]; rfl
theorem okD_tup3 {t : Nat} {a b c : D} (ha : okD t a = true) (hb : okD t b = true) (hc : okD t c = true) : okD (t + 1) (.tup [a, b, c]) = true := by
  show (decide (3 ≤ 16777216) && (okD t a && (okD t b && (okD t c && true)))) = true
  rw [ha, hb, hc]; rfl
theorem okD_c : ∀ (c : Cd) (t : Nat), c.dep + 3 ≤ t → okD t c.d = true
  | .cmp o a b, t, h => by
    obtain ⟨t, rfl⟩ : ∃ m, t = m + 1 := ⟨t - 1, by have : 1 + 3 ≤ t := h; omega⟩
    have h' : 1 + 3 ≤ t + 1 := h
    obtain ⟨u, rfl⟩ : ∃ m, t = m + 1 := ⟨t - 1, by omega⟩
    exact okD_tup3 rfl (okD_le (okD_v a) (by omega)) (okD_le (okD_v b) (by omega))
  | .tru, t, h => by
    have h' : 1 + 3 ≤ t := h
    exact okD_le (t := 2) rfl (by omega)
  | .fnd z, t, h => by
    have h' : 1 + 3 ≤ t := h
    exact okD_le (t := 2) rfl (by omega)
  | .nt c, t, h => by
    have h' : c.dep + 1 + 3 ≤ t := h
    obtain ⟨t, rfl⟩ : ∃ m, t = m + 1 := ⟨t - 1, by omega⟩
    obtain ⟨u, rfl⟩ : ∃ m, t = m + 1 := ⟨t - 1, by omega⟩
    exact okD_tup2 rfl (okD_c c _ (by omega))
  | .bin j c d, t, h => by
    have h' : max c.dep d.dep + 1 + 3 ≤ t := h
    obtain ⟨t, rfl⟩ : ∃ m, t = m + 1 := ⟨t - 1, by omega⟩
    obtain ⟨u, rfl⟩ : ∃ m, t = m + 1 := ⟨t - 1, by omega⟩
    exact okD_tup3 rfl (okD_c c _ (by omega)) (okD_c d _ (by omega))
theorem txt_len : ∀ c : Cd, c.ok = true → c.txt.length + 100 ≤ 300 * 2 ^ c.dep
  | .cmp o a b, h => by
    have h' := Bool.and_eq_true_iff.mp (show (a.ok && b.ok) = true from h)
    have a1 := vlen h'.1
    have b1 := vlen h'.2
    have o1 := cw_len o
    have : (Cd.cmp o a b).dep = 1 := rfl
    rw [this]
    simp only [Cd.txt, List.length_append, List.length_cons, List.length_nil]
    omega
  | .tru, _ => by decide
  | .fnd z, h => by
    have := isNm_len (show isNm z = true from h)
    have e : (Cd.fnd z).dep = 1 := rfl
    rw [e]
    simp only [Cd.txt, List.length_append, List.length_cons, List.length_nil]
    omega
  | .nt c, h => by
    have i := txt_len c h
    show ([110, 111, 116, 32] ++ c.txt).length + 100 ≤ 300 * 2 ^ (c.dep + 1)
    rw [Nat.pow_succ]
    simp only [List.length_append, List.length_cons, List.length_nil]
    have : 1 ≤ 2 ^ c.dep := Nat.one_le_two_pow
    omega
  | .bin j c d, h => by
    have h' := Bool.and_eq_true_iff.mp (show (c.ok && d.ok) = true from h)
    have i1 := txt_len c h'.1
    have i2 := txt_len d h'.2
    have l1 : 2 ^ c.dep ≤ 2 ^ max c.dep d.dep := Nat.pow_le_pow_right (by decide) (Nat.le_max_left _ _)
    have l2 : 2 ^ d.dep ≤ 2 ^ max c.dep d.dep := Nat.pow_le_pow_right (by decide) (Nat.le_max_right _ _)
    have lj := jw_len j
    show ([40] ++ (c.txt ++ ([32] ++ (jw j ++ ([32] ++ (d.txt ++ [41])))))).length + 100 ≤ 300 * 2 ^ (max c.dep d.dep + 1)
    rw [Nat.pow_succ]
    simp only [List.length_append, List.length_cons, List.length_nil]
    omega
theorem txt_6 {c : Cd} (h : c.ok = true) (hd : c.dep ≤ 6) : c.txt.length ≤ 20000 := by
  have := txt_len c h
  have l : 2 ^ c.dep ≤ 2 ^ 6 := Nat.pow_le_pow_right (by decide) hd
  omega
end PV
namespace K05
open PySem PD PV
theorem e_pull : K05.F__law_pull = PV.F__law_pull := rfl
theorem e_draws : K05.F__law_draws = F_draws := rfl
theorem e_new : K05.F__law_new_names = F_new := rfl
theorem e_any : K05.F__law_any = PV.F__law_any := rfl
theorem e_far : K05.F__law_far = PV.F__law_far := rfl
theorem e_sc : K05.F__law_some_condition = PV.F__law_some_condition := rfl
theorem e_lt : K05.F__law_condition_text = PV.F__law_condition_text := rfl
theorem e_ct : K05.F_condition_text = PV.F_condition_text := rfl
theorem e_rc : K05.F_read_condition = PV.F_read_condition := rfl
theorem e_like : K05.F__law_like = F_like_ 30 := rfl
theorem bag_pure {k : Cell} (hk : BagI k) : ([k] : EH).all pureC = true := by
  obtain ⟨cs, i, b, s, c, rfl, _⟩ := hk.ex
  have : PD.noRef.go (cs.map D.int) = true := ints_go cs
  show ((PD.noRef.go (cs.map D.int) && (true && (true && (true && (true && true))))) && true) = true
  rw [this]; rfl
/-! ### a turn -/
theorem again_ok {k : Cell} (hk : BagI k) {c : Cd} (hc : c.ok = true) (hd : c.dep ≤ 6) (l : c.txt.length ≤ 3900) (a b e f g h i : Option D) : mb_law_1 [a, b, e, f, g, h, i, some c.d, some (.str c.txt), some (.int 0)] [k] = some (.nx [a, b, e, f, g, h, i, some c.d, some (.str c.txt), some (.int 0)], [k]) ∧
    mb_law_1 [a, b, e, f, g, h, i, some c.d, some (.str c.txt), some (.int 1)] [k] = some (.nx [a, b, e, f, g, h, i, some c.d, some (.str c.txt), some (.int 1)], [k]) := by
  have ct := callPK_ok (F := K05.F_condition_text) (h := [k]) (ctext_ok hc hd (by omega)) (go1 c.noRef)
  have rc : K05.F_read_condition [.str c.txt] [k] = some (.ok c.d, [k]) := read_ok (t := [k]) (bag_pure hk) hc hd (by omega)
  have ok2 : okD 30 (.lst [.str c.txt, c.d]) = true := by
    show (decide (2 ≤ 16777216) && (true && (okD 29 c.d && true))) = true
    rw [okD_c c 29 (by omega)]; rfl
  have lk := callPK_ok (F := K05.F__law_like) (h := [k]) (like_refl ok2) (by
    show (PD.noRef (.lst [.str c.txt, c.d]) && (PD.noRef (.lst [.str c.txt, c.d]) && true)) = true
    rw [okD_noRef ok2]; rfl)
  constructor <;> simp only [K05.mb_law_1, ↓seq_ap, ↓var_ap, ↓c_ap, ↓bin_ap, ↓tst_ap, ↓not_ap, ↓and_ap, ↓or_ap, ↓if_ap, ↓andv_ap, ↓orv_ap, ↓notv_ap, ↓nil_ap, ↓cons_ap, ↓tup_ap, ↓lst_ap, ↓call_ap, ↓callP_ap, ↓callI_ap, ↓perm_ap, ↓nop_ap, ↓smp_ap, ↓sl_ap, ↓chain_ap, ↓isi_ap, ↓lc_ap, ↓lstC_ap, ↓mts_ap, ↓yes_ap, ↓il_ap, ↓it_ap, ↓is_ap, ↓ir1_ap, ↓iz_ap, ↓snil_ap, ↓ret_ap, ↓sif_ap, ↓sexpr_ap, ↓bk_ap, ↓ct_ap, ↓asg_ap, ↓for_ap, ↓par_ap, ↓gname_ap, ↓gnil_ap, ↓gcons_ap, ↓gtup_ap, ↓gsub_ap, bR_ok, bR_ex, rt_some, sq_nx, sq_rt, sq_bk, sq_ct, sq_ex, bS_ok, bS_ex, binK1_ap, binK2_ap, tstK_b, notK_ap, andK_t, andK_f, orK_t, orK_f, ifK_t, ifK_f, andV_t, andV_f, orV_t, orV_f, notV_c, consK1_ap, consK2_ap, tupK_ok, lstK_ok, callK_ap, permK_ap, smP_int, slK1_ap, slK2_ap, slK3_ap, sl_lst, sl_scr, sl_tup, chK1_ap, chK2_ap, chK3_t, chK3_f, chK4_ap, isiK_int, isiK_str, isiK_bl, isiK_non, isiK_tup, isiK_lst, mtsK_str, mtsK2_ap, ilK_lst, ilK_scr, itK_tup, isK_str, izK_l, izK_t, retK_ap, sifK_t, sifK_f, sexprK_ap, asgK_ap, bG_ok, forK_ap, parK_ok, gK_ok, subK1_ok, subK2_ok, add_int, sub_int, mod_int, lt_int, le_int, gt_int, ge_int, eq_int, eq_str, eq_bl, eq_is, eq_si, eq_bs, eq_sb, eq_nn, ne_int, ne_str, ne_bl, isn_ap, isN_int, isN_str, isN_bl, isN_tup, isN_lst, isN_non, ix_lst, ix_tup, ix_scr, len_lst, len_tup, int_int, list_lst, list_tup, tuple_lst, tuple_tup, asB_bl, getD0, getDS, set0, setS, at0, atS, map_some', bind_some', List.length_cons, List.length_nil, List.any_cons, List.any_nil, ↓fld_ap, ↓mei_ap, ↓faug_ap, ↓c1_ap, ↓ir2_ap, ↓sfld_ap, fldK_ap, meiK2_ap, c1K_ap, sfldK_ap, sfldK2_ap, decide_true, decide_false, and_self, Nat.reduceLeDiff, Nat.reduceAdd, if_true, Int.reduceLT, Int.reduceNeg, Int.reducePow, Int.reduceToNat, Int.reduceLE, Nat.reduceLT, Int.reduceAdd, Int.reduceSub, Bool.not_true, Bool.not_false, Int.reduceEq, bne_self_eq_false, Bool.false_bne, Bool.true_bne, Int.reduceBNe, ct, rc, lk]
theorem turn_ok {x : D} (d : D) (k : Cell) (r : Ev) (hk : BagI k) (hr : r.length = 8) : ∃ (ε1 r' : Ev) (k' : Cell), mgName 2 d (some x :: some (.ref 0) :: r) [k] = some (ε1, [k]) ∧
    (mb_law_3 ε1 [k] = some (.nx (some x :: some (.ref 0) :: r'), [k']) ∨ mb_law_3 ε1 [k] = some (.ct (some x :: some (.ref 0) :: r'), [k'])) ∧ r'.length = 8 ∧ BagI k' := by
  match r, hr with
  | [r2, r3, r4, r5, r6, r7, r8, r9], _ =>
  obtain ⟨zs, k1, e1, hk1, lzs, nzs, _⟩ := new_names hk (many := 3) (by decide) []
  match zs, lzs with
  | [z0, z1, z2], _ =>
  have h0 := nzs z0 (by simp)
  have h1 := nzs z1 (by simp)
  have h2 := nzs z2 (by simp)
  have e1' : K05.F__law_new_names [.ref 0, .int 3] [k] = some (.ok (.lst [.str z0, .str z1, .str z2]), [k1]) := e1
  obtain ⟨i, k2, e2, hi, hk2⟩ := far_ok hk1 []
  have e2' : K05.F__law_far [.ref 0] [k1] = some (.ok (.int i), [k2]) := e2
  have c2 : isCol z2 = true := by unfold isCol; rw [h2, Bool.or_true]
  have hp : PoolOk [(Pl.name z0).d, (Pl.field z1 z2).d, (Pl.own [107, 101, 121]).d, (Pl.own z2).d, (Pl.next z2).d, (Pl.num i).d] := ⟨fun d hd => by
    simp only [List.mem_cons, List.not_mem_nil, or_false] at hd
    rcases hd with rfl | rfl | rfl | rfl | rfl | rfl
    · exact ⟨_, rfl, h0⟩
    · exact ⟨_, rfl, by show (isNm z1 && isCol z2) = true; rw [h1, c2]; rfl⟩
    · exact ⟨_, rfl, rfl⟩
    · exact ⟨_, rfl, c2⟩
    · exact ⟨_, rfl, c2⟩
    · exact ⟨_, rfl, hi⟩, by simp⟩
  obtain ⟨n, k3, e3, n0, n1, hk3⟩ := pull_ok hk2 (n := 5) (by decide) (by decide) []
  have e3' : K05.F__law_pull [.ref 0, .int 5] [k2] = some (.ok (.int n), [k3]) := e3
  obtain ⟨c, k4, e4, hc, hcd, hk4⟩ := some_cond_ok hp (by simp) [] 8 n.toNat k3 hk3 (by omega)
  rw [Int.toNat_of_nonneg n0] at e4
  have e4' : K05.F__law_some_condition [.ref 0, .lst [.tup [.str [110, 97, 109, 101], .str z0], .tup [.str [102, 105, 101, 108, 100], .str z1, .str z2], .tup [.str [111, 119, 110], .str [107, 101, 121]], .tup [.str [111, 119, 110], .str z2], .tup [.str [110, 101, 120, 116], .str z2], .tup [.str [110, 117, 109, 98, 101, 114], .int i]], .int n] [k3] = some (.ok c.d, [k4]) := e4
  obtain ⟨m, k5, e5, m0, m1, hk5⟩ := pull_ok hk4 (n := 2) (by decide) (by decide) []
  have e5' : K05.F__law_pull [.ref 0, .int 2] [k4] = some (.ok (.int m), [k5]) := e5
  have rm : ∀ h : EH, ir1K [.int m] h = some (.ok (rngD 0 m.toNat), h) := fun h => ir1K_ok (by omega)
  have r2' : ∀ h : EH, ir1K [.int 2] h = some (.ok (rngD 0 2), h) := fun h => ir1K_ok (j := 2) (by decide)
  let P : Option D := some (.lst [.tup [.str [110, 97, 109, 101], .str z0], .tup [.str [102, 105, 101, 108, 100], .str z1, .str z2], .tup [.str [111, 119, 110], .str [107, 101, 121]], .tup [.str [111, 119, 110], .str z2], .tup [.str [110, 101, 120, 116], .str z2], .tup [.str [110, 117, 109, 98, 101, 114], .int i]])
  have wr : ∀ (t8 t9 : Option D), ∃ (c' : Cd) (k' : Cell) (q4 : Option D), forL (mgName 4) mb_law_2 (rngD 0 m.toNat) [some x, some (.ref 0), some d, r3, r4, some (.lst [.str z0, .str z1, .str z2]), P, some c.d, t8, t9] [k5] = some (.nx [some x, some (.ref 0), some d, r3, q4, some (.lst [.str z0, .str z1, .str z2]), P, some c'.d, t8, t9], [k']) ∧ c'.ok = true ∧ c'.dep ≤ 6 ∧ BagI k' := by
    intro t8 t9
    by_cases q : m = 0
    · subst q
      exact ⟨c, k5, r4, rfl, hc, by omega, hk5⟩
    · have q1 : m = 1 := by omega
      subst q1
      obtain ⟨n, k1, e1, n0, n1, hk1⟩ := pull_ok hk5 (n := 2) (by decide) (by decide) []
      have e1' : K05.F__law_pull [.ref 0, .int 2] [k5] = some (.ok (.int n), [k1]) := e1
      by_cases q : n = 0
      · refine ⟨.bin true (.fnd z1) c, k1, some (.int 0), ?_, by show (isNm z1 && c.ok) = true; rw [h1, hc]; rfl, by show max 1 c.dep + 1 ≤ 6; omega, hk1⟩
        rw [show rngD 0 (1 : Int).toNat = [.int 0] from rfl, forL_nx (ε1 := [some x, some (.ref 0), some d, r3, some (.int 0), some (.lst [.str z0, .str z1, .str z2]), P, some c.d, t8, t9]) (h1 := [k5]) (ε2 := [some x, some (.ref 0), some d, r3, some (.int 0), some (.lst [.str z0, .str z1, .str z2]), P, some (Cd.bin true (.fnd z1) c).d, t8, t9]) (h2 := [k1]) rfl (by
          simp only [K05.mb_law_2, ↓seq_ap, ↓var_ap, ↓c_ap, ↓bin_ap, ↓tst_ap, ↓not_ap, ↓and_ap, ↓or_ap, ↓if_ap, ↓andv_ap, ↓orv_ap, ↓notv_ap, ↓nil_ap, ↓cons_ap, ↓tup_ap, ↓lst_ap, ↓call_ap, ↓callP_ap, ↓callI_ap, ↓perm_ap, ↓nop_ap, ↓smp_ap, ↓sl_ap, ↓chain_ap, ↓isi_ap, ↓lc_ap, ↓lstC_ap, ↓mts_ap, ↓yes_ap, ↓il_ap, ↓it_ap, ↓is_ap, ↓ir1_ap, ↓iz_ap, ↓snil_ap, ↓ret_ap, ↓sif_ap, ↓sexpr_ap, ↓bk_ap, ↓ct_ap, ↓asg_ap, ↓for_ap, ↓par_ap, ↓gname_ap, ↓gnil_ap, ↓gcons_ap, ↓gtup_ap, ↓gsub_ap, bR_ok, bR_ex, rt_some, sq_nx, sq_rt, sq_bk, sq_ct, sq_ex, bS_ok, bS_ex, binK1_ap, binK2_ap, tstK_b, notK_ap, andK_t, andK_f, orK_t, orK_f, ifK_t, ifK_f, andV_t, andV_f, orV_t, orV_f, notV_c, consK1_ap, consK2_ap, tupK_ok, lstK_ok, callK_ap, permK_ap, smP_int, slK1_ap, slK2_ap, slK3_ap, sl_lst, sl_scr, sl_tup, chK1_ap, chK2_ap, chK3_t, chK3_f, chK4_ap, isiK_int, isiK_str, isiK_bl, isiK_non, isiK_tup, isiK_lst, mtsK_str, mtsK2_ap, ilK_lst, ilK_scr, itK_tup, isK_str, izK_l, izK_t, retK_ap, sifK_t, sifK_f, sexprK_ap, asgK_ap, bG_ok, forK_ap, parK_ok, gK_ok, subK1_ok, subK2_ok, add_int, sub_int, mod_int, lt_int, le_int, gt_int, ge_int, eq_int, eq_str, eq_bl, eq_is, eq_si, eq_bs, eq_sb, eq_nn, ne_int, ne_str, ne_bl, isn_ap, isN_int, isN_str, isN_bl, isN_tup, isN_lst, isN_non, ix_lst, ix_tup, ix_scr, len_lst, len_tup, int_int, list_lst, list_tup, tuple_lst, tuple_tup, asB_bl, getD0, getDS, set0, setS, at0, atS, map_some', bind_some', List.length_cons, List.length_nil, List.any_cons, List.any_nil, ↓fld_ap, ↓mei_ap, ↓faug_ap, ↓c1_ap, ↓ir2_ap, ↓sfld_ap, fldK_ap, meiK2_ap, c1K_ap, sfldK_ap, sfldK2_ap, decide_true, decide_false, and_self, Nat.reduceLeDiff, Nat.reduceAdd, if_true, Int.reduceLT, Int.reduceNeg, Int.reducePow, Int.reduceToNat, Int.reduceLE, Nat.reduceLT, Int.reduceAdd, Int.reduceSub, Bool.not_true, Bool.not_false, Int.reduceEq, bne_self_eq_false, Bool.false_bne, Bool.true_bne, Int.reduceBNe, e1', q, atl0, atl1]
          rfl), forL_nil]
      · refine ⟨.bin false c (.nt (.fnd z0)), k1, some (.int 0), ?_, by show (c.ok && isNm z0) = true; rw [h0, hc]; rfl, by show max c.dep (1 + 1) + 1 ≤ 6; omega, hk1⟩
        rw [show rngD 0 (1 : Int).toNat = [.int 0] from rfl, forL_nx (ε1 := [some x, some (.ref 0), some d, r3, some (.int 0), some (.lst [.str z0, .str z1, .str z2]), P, some c.d, t8, t9]) (h1 := [k5]) (ε2 := [some x, some (.ref 0), some d, r3, some (.int 0), some (.lst [.str z0, .str z1, .str z2]), P, some (Cd.bin false c (.nt (.fnd z0))).d, t8, t9]) (h2 := [k1]) rfl (by
          simp only [K05.mb_law_2, ↓seq_ap, ↓var_ap, ↓c_ap, ↓bin_ap, ↓tst_ap, ↓not_ap, ↓and_ap, ↓or_ap, ↓if_ap, ↓andv_ap, ↓orv_ap, ↓notv_ap, ↓nil_ap, ↓cons_ap, ↓tup_ap, ↓lst_ap, ↓call_ap, ↓callP_ap, ↓callI_ap, ↓perm_ap, ↓nop_ap, ↓smp_ap, ↓sl_ap, ↓chain_ap, ↓isi_ap, ↓lc_ap, ↓lstC_ap, ↓mts_ap, ↓yes_ap, ↓il_ap, ↓it_ap, ↓is_ap, ↓ir1_ap, ↓iz_ap, ↓snil_ap, ↓ret_ap, ↓sif_ap, ↓sexpr_ap, ↓bk_ap, ↓ct_ap, ↓asg_ap, ↓for_ap, ↓par_ap, ↓gname_ap, ↓gnil_ap, ↓gcons_ap, ↓gtup_ap, ↓gsub_ap, bR_ok, bR_ex, rt_some, sq_nx, sq_rt, sq_bk, sq_ct, sq_ex, bS_ok, bS_ex, binK1_ap, binK2_ap, tstK_b, notK_ap, andK_t, andK_f, orK_t, orK_f, ifK_t, ifK_f, andV_t, andV_f, orV_t, orV_f, notV_c, consK1_ap, consK2_ap, tupK_ok, lstK_ok, callK_ap, permK_ap, smP_int, slK1_ap, slK2_ap, slK3_ap, sl_lst, sl_scr, sl_tup, chK1_ap, chK2_ap, chK3_t, chK3_f, chK4_ap, isiK_int, isiK_str, isiK_bl, isiK_non, isiK_tup, isiK_lst, mtsK_str, mtsK2_ap, ilK_lst, ilK_scr, itK_tup, isK_str, izK_l, izK_t, retK_ap, sifK_t, sifK_f, sexprK_ap, asgK_ap, bG_ok, forK_ap, parK_ok, gK_ok, subK1_ok, subK2_ok, add_int, sub_int, mod_int, lt_int, le_int, gt_int, ge_int, eq_int, eq_str, eq_bl, eq_is, eq_si, eq_bs, eq_sb, eq_nn, ne_int, ne_str, ne_bl, isn_ap, isN_int, isN_str, isN_bl, isN_tup, isN_lst, isN_non, ix_lst, ix_tup, ix_scr, len_lst, len_tup, int_int, list_lst, list_tup, tuple_lst, tuple_tup, asB_bl, getD0, getDS, set0, setS, at0, atS, map_some', bind_some', List.length_cons, List.length_nil, List.any_cons, List.any_nil, ↓fld_ap, ↓mei_ap, ↓faug_ap, ↓c1_ap, ↓ir2_ap, ↓sfld_ap, fldK_ap, meiK2_ap, c1K_ap, sfldK_ap, sfldK2_ap, decide_true, decide_false, and_self, Nat.reduceLeDiff, Nat.reduceAdd, if_true, Int.reduceLT, Int.reduceNeg, Int.reducePow, Int.reduceToNat, Int.reduceLE, Nat.reduceLT, Int.reduceAdd, Int.reduceSub, Bool.not_true, Bool.not_false, Int.reduceEq, bne_self_eq_false, Bool.false_bne, Bool.true_bne, Int.reduceBNe, e1', q, atl0, atl1]
          rfl), forL_nil]
  obtain ⟨c', k6, q4, e6, hc', hcd', hk6⟩ := wr r8 r9
  have l6 := txt_6 hc' hcd'
  have tx := callPK_ok (F := K05.F__law_condition_text) (h := [k6]) (ltx c' 12 hc' (by omega) (by omega)) (go1 c'.noRef)
  by_cases q : (3900 : Int) < (c'.txt.length : Int)
  · refine ⟨_, [some d, r3, q4, some (.lst [.str z0, .str z1, .str z2]), P, some c'.d, some (.str c'.txt), r9], k6, rfl, .inr ?_, rfl, hk6⟩
    simp only [mb_law_3, ↓seq_ap, ↓var_ap, ↓c_ap, ↓bin_ap, ↓tst_ap, ↓not_ap, ↓and_ap, ↓or_ap, ↓if_ap, ↓andv_ap, ↓orv_ap, ↓notv_ap, ↓nil_ap, ↓cons_ap, ↓tup_ap, ↓lst_ap, ↓call_ap, ↓callP_ap, ↓callI_ap, ↓perm_ap, ↓nop_ap, ↓smp_ap, ↓sl_ap, ↓chain_ap, ↓isi_ap, ↓lc_ap, ↓lstC_ap, ↓mts_ap, ↓yes_ap, ↓il_ap, ↓it_ap, ↓is_ap, ↓ir1_ap, ↓iz_ap, ↓snil_ap, ↓ret_ap, ↓sif_ap, ↓sexpr_ap, ↓bk_ap, ↓ct_ap, ↓asg_ap, ↓for_ap, ↓par_ap, ↓gname_ap, ↓gnil_ap, ↓gcons_ap, ↓gtup_ap, ↓gsub_ap, bR_ok, bR_ex, rt_some, sq_nx, sq_rt, sq_bk, sq_ct, sq_ex, bS_ok, bS_ex, binK1_ap, binK2_ap, tstK_b, notK_ap, andK_t, andK_f, orK_t, orK_f, ifK_t, ifK_f, andV_t, andV_f, orV_t, orV_f, notV_c, consK1_ap, consK2_ap, tupK_ok, lstK_ok, callK_ap, permK_ap, smP_int, slK1_ap, slK2_ap, slK3_ap, sl_lst, sl_scr, sl_tup, chK1_ap, chK2_ap, chK3_t, chK3_f, chK4_ap, isiK_int, isiK_str, isiK_bl, isiK_non, isiK_tup, isiK_lst, mtsK_str, mtsK2_ap, ilK_lst, ilK_scr, itK_tup, isK_str, izK_l, izK_t, retK_ap, sifK_t, sifK_f, sexprK_ap, asgK_ap, bG_ok, forK_ap, parK_ok, gK_ok, subK1_ok, subK2_ok, add_int, sub_int, mod_int, lt_int, le_int, gt_int, ge_int, eq_int, eq_str, eq_bl, eq_is, eq_si, eq_bs, eq_sb, eq_nn, ne_int, ne_str, ne_bl, isn_ap, isN_int, isN_str, isN_bl, isN_tup, isN_lst, isN_non, ix_lst, ix_tup, ix_scr, len_lst, len_tup, int_int, list_lst, list_tup, tuple_lst, tuple_tup, asB_bl, getD0, getDS, set0, setS, at0, atS, map_some', bind_some', List.length_cons, List.length_nil, List.any_cons, List.any_nil, ↓fld_ap, ↓mei_ap, ↓faug_ap, ↓c1_ap, ↓ir2_ap, ↓sfld_ap, fldK_ap, meiK2_ap, c1K_ap, sfldK_ap, sfldK2_ap, decide_true, decide_false, and_self, Nat.reduceLeDiff, Nat.reduceAdd, if_true, Int.reduceLT, Int.reduceNeg, Int.reducePow, Int.reduceToNat, Int.reduceLE, Nat.reduceLT, Int.reduceAdd, Int.reduceSub, Bool.not_true, Bool.not_false, Int.reduceEq, bne_self_eq_false, Bool.false_bne, Bool.true_bne, Int.reduceBNe, atl0, atl1, atl2, e1', e2', e3', e4', e5', rm]
    simp only [P] at e6
    simp only [e6, ↓seq_ap, ↓var_ap, ↓c_ap, ↓bin_ap, ↓tst_ap, ↓not_ap, ↓and_ap, ↓or_ap, ↓if_ap, ↓andv_ap, ↓orv_ap, ↓notv_ap, ↓nil_ap, ↓cons_ap, ↓tup_ap, ↓lst_ap, ↓call_ap, ↓callP_ap, ↓callI_ap, ↓perm_ap, ↓nop_ap, ↓smp_ap, ↓sl_ap, ↓chain_ap, ↓isi_ap, ↓lc_ap, ↓lstC_ap, ↓mts_ap, ↓yes_ap, ↓il_ap, ↓it_ap, ↓is_ap, ↓ir1_ap, ↓iz_ap, ↓snil_ap, ↓ret_ap, ↓sif_ap, ↓sexpr_ap, ↓bk_ap, ↓ct_ap, ↓asg_ap, ↓for_ap, ↓par_ap, ↓gname_ap, ↓gnil_ap, ↓gcons_ap, ↓gtup_ap, ↓gsub_ap, bR_ok, bR_ex, rt_some, sq_nx, sq_rt, sq_bk, sq_ct, sq_ex, bS_ok, bS_ex, binK1_ap, binK2_ap, tstK_b, notK_ap, andK_t, andK_f, orK_t, orK_f, ifK_t, ifK_f, andV_t, andV_f, orV_t, orV_f, notV_c, consK1_ap, consK2_ap, tupK_ok, lstK_ok, callK_ap, permK_ap, smP_int, slK1_ap, slK2_ap, slK3_ap, sl_lst, sl_scr, sl_tup, chK1_ap, chK2_ap, chK3_t, chK3_f, chK4_ap, isiK_int, isiK_str, isiK_bl, isiK_non, isiK_tup, isiK_lst, mtsK_str, mtsK2_ap, ilK_lst, ilK_scr, itK_tup, isK_str, izK_l, izK_t, retK_ap, sifK_t, sifK_f, sexprK_ap, asgK_ap, bG_ok, forK_ap, parK_ok, gK_ok, subK1_ok, subK2_ok, add_int, sub_int, mod_int, lt_int, le_int, gt_int, ge_int, eq_int, eq_str, eq_bl, eq_is, eq_si, eq_bs, eq_sb, eq_nn, ne_int, ne_str, ne_bl, isn_ap, isN_int, isN_str, isN_bl, isN_tup, isN_lst, isN_non, ix_lst, ix_tup, ix_scr, len_lst, len_tup, int_int, list_lst, list_tup, tuple_lst, tuple_tup, asB_bl, getD0, getDS, set0, setS, at0, atS, map_some', bind_some', List.length_cons, List.length_nil, List.any_cons, List.any_nil, ↓fld_ap, ↓mei_ap, ↓faug_ap, ↓c1_ap, ↓ir2_ap, ↓sfld_ap, fldK_ap, meiK2_ap, c1K_ap, sfldK_ap, sfldK2_ap, decide_true, decide_false, and_self, Nat.reduceLeDiff, Nat.reduceAdd, if_true, Int.reduceLT, Int.reduceNeg, Int.reducePow, Int.reduceToNat, Int.reduceLE, Nat.reduceLT, Int.reduceAdd, Int.reduceSub, Bool.not_true, Bool.not_false, Int.reduceEq, bne_self_eq_false, Bool.false_bne, Bool.true_bne, Int.reduceBNe, tx, len_str (z := c'.txt) (by omega), q]
    rfl
  · have ag := again_ok hk6 hc' hcd' (by omega) (some x) (some (.ref 0)) (some d) r3 q4 (some (.lst [.str z0, .str z1, .str z2])) P
    refine ⟨_, [some d, r3, q4, some (.lst [.str z0, .str z1, .str z2]), P, some c'.d, some (.str c'.txt), some (.int 1)], k6, rfl, .inl ?_, rfl, hk6⟩
    have lp : forL (mgName 9) mb_law_1 (rngD 0 2) [some x, some (.ref 0), some d, r3, q4, some (.lst [.str z0, .str z1, .str z2]), P, some c'.d, some (.str c'.txt), r9] [k6] = some (.nx [some x, some (.ref 0), some d, r3, q4, some (.lst [.str z0, .str z1, .str z2]), P, some c'.d, some (.str c'.txt), some (.int 1)], [k6]) := by
      rw [show rngD 0 2 = [.int 0, .int 1] from rfl, forL_nx (h1 := [k6]) rfl ag.1, forL_nx (h1 := [k6]) rfl ag.2, forL_nil]
    simp only [mb_law_3, ↓seq_ap, ↓var_ap, ↓c_ap, ↓bin_ap, ↓tst_ap, ↓not_ap, ↓and_ap, ↓or_ap, ↓if_ap, ↓andv_ap, ↓orv_ap, ↓notv_ap, ↓nil_ap, ↓cons_ap, ↓tup_ap, ↓lst_ap, ↓call_ap, ↓callP_ap, ↓callI_ap, ↓perm_ap, ↓nop_ap, ↓smp_ap, ↓sl_ap, ↓chain_ap, ↓isi_ap, ↓lc_ap, ↓lstC_ap, ↓mts_ap, ↓yes_ap, ↓il_ap, ↓it_ap, ↓is_ap, ↓ir1_ap, ↓iz_ap, ↓snil_ap, ↓ret_ap, ↓sif_ap, ↓sexpr_ap, ↓bk_ap, ↓ct_ap, ↓asg_ap, ↓for_ap, ↓par_ap, ↓gname_ap, ↓gnil_ap, ↓gcons_ap, ↓gtup_ap, ↓gsub_ap, bR_ok, bR_ex, rt_some, sq_nx, sq_rt, sq_bk, sq_ct, sq_ex, bS_ok, bS_ex, binK1_ap, binK2_ap, tstK_b, notK_ap, andK_t, andK_f, orK_t, orK_f, ifK_t, ifK_f, andV_t, andV_f, orV_t, orV_f, notV_c, consK1_ap, consK2_ap, tupK_ok, lstK_ok, callK_ap, permK_ap, smP_int, slK1_ap, slK2_ap, slK3_ap, sl_lst, sl_scr, sl_tup, chK1_ap, chK2_ap, chK3_t, chK3_f, chK4_ap, isiK_int, isiK_str, isiK_bl, isiK_non, isiK_tup, isiK_lst, mtsK_str, mtsK2_ap, ilK_lst, ilK_scr, itK_tup, isK_str, izK_l, izK_t, retK_ap, sifK_t, sifK_f, sexprK_ap, asgK_ap, bG_ok, forK_ap, parK_ok, gK_ok, subK1_ok, subK2_ok, add_int, sub_int, mod_int, lt_int, le_int, gt_int, ge_int, eq_int, eq_str, eq_bl, eq_is, eq_si, eq_bs, eq_sb, eq_nn, ne_int, ne_str, ne_bl, isn_ap, isN_int, isN_str, isN_bl, isN_tup, isN_lst, isN_non, ix_lst, ix_tup, ix_scr, len_lst, len_tup, int_int, list_lst, list_tup, tuple_lst, tuple_tup, asB_bl, getD0, getDS, set0, setS, at0, atS, map_some', bind_some', List.length_cons, List.length_nil, List.any_cons, List.any_nil, ↓fld_ap, ↓mei_ap, ↓faug_ap, ↓c1_ap, ↓ir2_ap, ↓sfld_ap, fldK_ap, meiK2_ap, c1K_ap, sfldK_ap, sfldK2_ap, decide_true, decide_false, and_self, Nat.reduceLeDiff, Nat.reduceAdd, if_true, Int.reduceLT, Int.reduceNeg, Int.reducePow, Int.reduceToNat, Int.reduceLE, Nat.reduceLT, Int.reduceAdd, Int.reduceSub, Bool.not_true, Bool.not_false, Int.reduceEq, bne_self_eq_false, Bool.false_bne, Bool.true_bne, Int.reduceBNe, atl0, atl1, atl2, e1', e2', e3', e4', e5', rm]
    simp only [P] at e6 lp
    simp only [e6, ↓seq_ap, ↓var_ap, ↓c_ap, ↓bin_ap, ↓tst_ap, ↓not_ap, ↓and_ap, ↓or_ap, ↓if_ap, ↓andv_ap, ↓orv_ap, ↓notv_ap, ↓nil_ap, ↓cons_ap, ↓tup_ap, ↓lst_ap, ↓call_ap, ↓callP_ap, ↓callI_ap, ↓perm_ap, ↓nop_ap, ↓smp_ap, ↓sl_ap, ↓chain_ap, ↓isi_ap, ↓lc_ap, ↓lstC_ap, ↓mts_ap, ↓yes_ap, ↓il_ap, ↓it_ap, ↓is_ap, ↓ir1_ap, ↓iz_ap, ↓snil_ap, ↓ret_ap, ↓sif_ap, ↓sexpr_ap, ↓bk_ap, ↓ct_ap, ↓asg_ap, ↓for_ap, ↓par_ap, ↓gname_ap, ↓gnil_ap, ↓gcons_ap, ↓gtup_ap, ↓gsub_ap, bR_ok, bR_ex, rt_some, sq_nx, sq_rt, sq_bk, sq_ct, sq_ex, bS_ok, bS_ex, binK1_ap, binK2_ap, tstK_b, notK_ap, andK_t, andK_f, orK_t, orK_f, ifK_t, ifK_f, andV_t, andV_f, orV_t, orV_f, notV_c, consK1_ap, consK2_ap, tupK_ok, lstK_ok, callK_ap, permK_ap, smP_int, slK1_ap, slK2_ap, slK3_ap, sl_lst, sl_scr, sl_tup, chK1_ap, chK2_ap, chK3_t, chK3_f, chK4_ap, isiK_int, isiK_str, isiK_bl, isiK_non, isiK_tup, isiK_lst, mtsK_str, mtsK2_ap, ilK_lst, ilK_scr, itK_tup, isK_str, izK_l, izK_t, retK_ap, sifK_t, sifK_f, sexprK_ap, asgK_ap, bG_ok, forK_ap, parK_ok, gK_ok, subK1_ok, subK2_ok, add_int, sub_int, mod_int, lt_int, le_int, gt_int, ge_int, eq_int, eq_str, eq_bl, eq_is, eq_si, eq_bs, eq_sb, eq_nn, ne_int, ne_str, ne_bl, isn_ap, isN_int, isN_str, isN_bl, isN_tup, isN_lst, isN_non, ix_lst, ix_tup, ix_scr, len_lst, len_tup, int_int, list_lst, list_tup, tuple_lst, tuple_tup, asB_bl, getD0, getDS, set0, setS, at0, atS, map_some', bind_some', List.length_cons, List.length_nil, List.any_cons, List.any_nil, ↓fld_ap, ↓mei_ap, ↓faug_ap, ↓c1_ap, ↓ir2_ap, ↓sfld_ap, fldK_ap, meiK2_ap, c1K_ap, sfldK_ap, sfldK2_ap, decide_true, decide_false, and_self, Nat.reduceLeDiff, Nat.reduceAdd, if_true, Int.reduceLT, Int.reduceNeg, Int.reducePow, Int.reduceToNat, Int.reduceLE, Nat.reduceLT, Int.reduceAdd, Int.reduceSub, Bool.not_true, Bool.not_false, Int.reduceEq, bne_self_eq_false, Bool.false_bne, Bool.true_bne, Int.reduceBNe, tx, len_str (z := c'.txt) (by omega), q, r2', lp]
    rfl
/-! ### deep ones -/
theorem deep_ok (a b e : Option D) (f g h i j : Option D) : ∀ (ds : List D) (c : Cd) (k : Cell) (f : Option D), BagI k → c.ok = true → ∃ (c' : Cd) (k' : Cell) (f' : Option D), forL (mgName 4) mb_law_0 ds [a, some (.ref 0), b, some c.d, f, e, g, h, i, j] [k] = some (.nx [a, some (.ref 0), b, some c'.d, f', e, g, h, i, j], [k']) ∧
    c'.ok = true ∧ c'.dep ≤ c.dep + ds.length ∧ c'.txt.length ≤ c.txt.length + 20 * ds.length ∧ BagI k' := by
  intro ds
  induction ds with
  | nil => intro c k f hk hc; exact ⟨c, k, f, rfl, hc, Nat.le_refl _, Nat.le_refl _, hk⟩
  | cons d ds ih =>
    intro c k f hk hc
    have hp := c.dep_pos
    have P3 : ∀ y ∈ [(Cd.nt c).d, (Cd.bin true c .tru).d, (Cd.bin false (.fnd [97]) c).d], ∃ c' : Cd, y = c'.d ∧ c'.ok = true ∧ c'.dep ≤ c.dep + 1 ∧ c'.txt.length ≤ c.txt.length + 20 := by
      intro y hy
      simp only [List.mem_cons, List.not_mem_nil, or_false] at hy
      rcases hy with rfl | rfl | rfl
      · exact ⟨_, rfl, hc, Nat.le_refl _, by simp [Cd.txt]⟩
      · exact ⟨_, rfl, by show (c.ok && true) = true; rw [hc]; rfl, by show max c.dep 1 + 1 ≤ c.dep + 1; omega, by simp [Cd.txt, jw]⟩
      · exact ⟨_, rfl, by show (isNm [97] && c.ok) = true; rw [hc]; rfl, by show max 1 c.dep + 1 ≤ c.dep + 1; omega, by simp [Cd.txt, jw]⟩
    obtain ⟨y, k1, e1, hy, hk1⟩ := any_lst hk (ds := [(Cd.nt c).d, (Cd.bin true c .tru).d, (Cd.bin false (.fnd [97]) c).d]) (by simp) (by simp) (fun d hd => by obtain ⟨c', rfl, _⟩ := P3 d hd; exact c'.noRef) []
    obtain ⟨c1, rfl, hc1, hd1, hl1⟩ := P3 y hy
    have e1' : K05.F__law_any [.ref 0, .lst [.tup [.str [110, 111, 116], c.d], .tup [.str [97, 110, 100], c.d, .tup [.str [116, 114, 117, 101]]], .tup [.str [111, 114], .tup [.str [102, 111, 117, 110, 100], .str [97]], c.d]]] [k] = some (.ok c1.d, [k1]) := e1
    obtain ⟨c2, k2, f2, e2, hc2, hd2, hl2, hk2⟩ := ih c1 k1 (some d) hk1 hc1
    refine ⟨c2, k2, f2, ?_, hc2, by rw [List.length_cons]; omega, by rw [List.length_cons]; omega, hk2⟩
    rw [forL_nx (ε1 := [a, some (.ref 0), b, some c.d, some d, e, g, h, i, j]) (h1 := [k]) (ε2 := [a, some (.ref 0), b, some c1.d, some d, e, g, h, i, j]) (h2 := [k1]) rfl (by simp only [mb_law_0, ↓seq_ap, ↓var_ap, ↓c_ap, ↓bin_ap, ↓tst_ap, ↓not_ap, ↓and_ap, ↓or_ap, ↓if_ap, ↓andv_ap, ↓orv_ap, ↓notv_ap, ↓nil_ap, ↓cons_ap, ↓tup_ap, ↓lst_ap, ↓call_ap, ↓callP_ap, ↓callI_ap, ↓perm_ap, ↓nop_ap, ↓smp_ap, ↓sl_ap, ↓chain_ap, ↓isi_ap, ↓lc_ap, ↓lstC_ap, ↓mts_ap, ↓yes_ap, ↓il_ap, ↓it_ap, ↓is_ap, ↓ir1_ap, ↓iz_ap, ↓snil_ap, ↓ret_ap, ↓sif_ap, ↓sexpr_ap, ↓bk_ap, ↓ct_ap, ↓asg_ap, ↓for_ap, ↓par_ap, ↓gname_ap, ↓gnil_ap, ↓gcons_ap, ↓gtup_ap, ↓gsub_ap, bR_ok, bR_ex, rt_some, sq_nx, sq_rt, sq_bk, sq_ct, sq_ex, bS_ok, bS_ex, binK1_ap, binK2_ap, tstK_b, notK_ap, andK_t, andK_f, orK_t, orK_f, ifK_t, ifK_f, andV_t, andV_f, orV_t, orV_f, notV_c, consK1_ap, consK2_ap, tupK_ok, lstK_ok, callK_ap, permK_ap, smP_int, slK1_ap, slK2_ap, slK3_ap, sl_lst, sl_scr, sl_tup, chK1_ap, chK2_ap, chK3_t, chK3_f, chK4_ap, isiK_int, isiK_str, isiK_bl, isiK_non, isiK_tup, isiK_lst, mtsK_str, mtsK2_ap, ilK_lst, ilK_scr, itK_tup, isK_str, izK_l, izK_t, retK_ap, sifK_t, sifK_f, sexprK_ap, asgK_ap, bG_ok, forK_ap, parK_ok, gK_ok, subK1_ok, subK2_ok, add_int, sub_int, mod_int, lt_int, le_int, gt_int, ge_int, eq_int, eq_str, eq_bl, eq_is, eq_si, eq_bs, eq_sb, eq_nn, ne_int, ne_str, ne_bl, isn_ap, isN_int, isN_str, isN_bl, isN_tup, isN_lst, isN_non, ix_lst, ix_tup, ix_scr, len_lst, len_tup, int_int, list_lst, list_tup, tuple_lst, tuple_tup, asB_bl, getD0, getDS, set0, setS, at0, atS, map_some', bind_some', List.length_cons, List.length_nil, List.any_cons, List.any_nil, ↓fld_ap, ↓mei_ap, ↓faug_ap, ↓c1_ap, ↓ir2_ap, ↓sfld_ap, fldK_ap, meiK2_ap, c1K_ap, sfldK_ap, sfldK2_ap, decide_true, decide_false, and_self, Nat.reduceLeDiff, Nat.reduceAdd, if_true, Int.reduceLT, Int.reduceNeg, Int.reducePow, Int.reduceToNat, Int.reduceLE, Nat.reduceLT, Int.reduceAdd, Int.reduceSub, Bool.not_true, Bool.not_false, Int.reduceEq, bne_self_eq_false, Bool.false_bne, Bool.true_bne, Int.reduceBNe, e1'])]
    exact e2
theorem math (ns : List Int) (h1 : ns.length ≤ 63) (h2 : ∀ z ∈ ns, Builtin.Int.intBits z ≤ 1048576) : ∃ h', F_law [.scr (ns.map .int)] [] = some (.ok (.bl true), h') := by
  obtain ⟨k, e0, hk⟩ := draws_ok h1
  obtain ⟨r, k1, el, hr, hk1⟩ := forL_bag (g := mgName 2) (b := mb_law_3) (n := 8) (x := .scr (ns.map .int)) turn_ok (rngD 0 6) k [none, none, none, none, none, none, none, none] hk rfl
  have e0' : K05.F__law_draws [.scr (ns.map .int)] [] = some (.ok (.ref 0), [k]) := e0
  have r6 : ∀ h : EH, ir1K [.int 6] h = some (.ok (rngD 0 6), h) := fun h => ir1K_ok (j := 6) (by decide)
  have r5 : ∀ h : EH, ir1K [.int 5] h = some (.ok (rngD 0 5), h) := fun h => ir1K_ok (j := 5) (by decide)
  match r, hr with
  | [r2, r3, r4, r5', r6', r7, r8, r9], _ =>
  obtain ⟨c, k2, f, e2, hc, hd, hl, hk2⟩ := deep_ok (some (.scr (ns.map .int))) r2 r5' none r6' r7 r8 r9 (rngD 0 5) .tru k1 r4 hk1 rfl
  have hd' : c.dep ≤ 6 := hd
  have hl' : c.txt.length ≤ 104 := hl
  have ct := callPK_ok (F := K05.F_condition_text) (h := [k2]) (ctext_ok hc hd' (by omega)) (go1 c.noRef)
  have rc : K05.F_read_condition [.str c.txt] [k2] = some (.ok c.d, [k2]) := read_ok (t := [k2]) (bag_pure hk2) hc hd' (by omega)
  have ok2 : okD 30 c.d = true := okD_c c 30 (by omega)
  have lk := callPK_ok (F := K05.F__law_like) (h := [k2]) (like_refl ok2) (by
    show (PD.noRef c.d && (PD.noRef c.d && true)) = true
    rw [c.noRef]; rfl)
  simp only [Cd.d] at e2
  have run : ∃ ε : Ev, m_law [some (.scr (ns.map .int)), none, none, none, none, none, none, none, none, none] [] = some (.rt (.bl true), [k2]) := by
    refine ⟨[], ?_⟩
    simp only [m_law, ↓seq_ap, ↓var_ap, ↓c_ap, ↓bin_ap, ↓tst_ap, ↓not_ap, ↓and_ap, ↓or_ap, ↓if_ap, ↓andv_ap, ↓orv_ap, ↓notv_ap, ↓nil_ap, ↓cons_ap, ↓tup_ap, ↓lst_ap, ↓call_ap, ↓callP_ap, ↓callI_ap, ↓perm_ap, ↓nop_ap, ↓smp_ap, ↓sl_ap, ↓chain_ap, ↓isi_ap, ↓lc_ap, ↓lstC_ap, ↓mts_ap, ↓yes_ap, ↓il_ap, ↓it_ap, ↓is_ap, ↓ir1_ap, ↓iz_ap, ↓snil_ap, ↓ret_ap, ↓sif_ap, ↓sexpr_ap, ↓bk_ap, ↓ct_ap, ↓asg_ap, ↓for_ap, ↓par_ap, ↓gname_ap, ↓gnil_ap, ↓gcons_ap, ↓gtup_ap, ↓gsub_ap, bR_ok, bR_ex, rt_some, sq_nx, sq_rt, sq_bk, sq_ct, sq_ex, bS_ok, bS_ex, binK1_ap, binK2_ap, tstK_b, notK_ap, andK_t, andK_f, orK_t, orK_f, ifK_t, ifK_f, andV_t, andV_f, orV_t, orV_f, notV_c, consK1_ap, consK2_ap, tupK_ok, lstK_ok, callK_ap, permK_ap, smP_int, slK1_ap, slK2_ap, slK3_ap, sl_lst, sl_scr, sl_tup, chK1_ap, chK2_ap, chK3_t, chK3_f, chK4_ap, isiK_int, isiK_str, isiK_bl, isiK_non, isiK_tup, isiK_lst, mtsK_str, mtsK2_ap, ilK_lst, ilK_scr, itK_tup, isK_str, izK_l, izK_t, retK_ap, sifK_t, sifK_f, sexprK_ap, asgK_ap, bG_ok, forK_ap, parK_ok, gK_ok, subK1_ok, subK2_ok, add_int, sub_int, mod_int, lt_int, le_int, gt_int, ge_int, eq_int, eq_str, eq_bl, eq_is, eq_si, eq_bs, eq_sb, eq_nn, ne_int, ne_str, ne_bl, isn_ap, isN_int, isN_str, isN_bl, isN_tup, isN_lst, isN_non, ix_lst, ix_tup, ix_scr, len_lst, len_tup, int_int, list_lst, list_tup, tuple_lst, tuple_tup, asB_bl, getD0, getDS, set0, setS, at0, atS, map_some', bind_some', List.length_cons, List.length_nil, List.any_cons, List.any_nil, ↓fld_ap, ↓mei_ap, ↓faug_ap, ↓c1_ap, ↓ir2_ap, ↓sfld_ap, fldK_ap, meiK2_ap, c1K_ap, sfldK_ap, sfldK2_ap, decide_true, decide_false, and_self, Nat.reduceLeDiff, Nat.reduceAdd, if_true, Int.reduceLT, Int.reduceNeg, Int.reducePow, Int.reduceToNat, Int.reduceLE, Nat.reduceLT, Int.reduceAdd, Int.reduceSub, Bool.not_true, Bool.not_false, Int.reduceEq, bne_self_eq_false, Bool.false_bne, Bool.true_bne, Int.reduceBNe, e0', r6, r5, el, e2, ct, rc, lk]
  obtain ⟨_, run⟩ := run
  refine ⟨[], ?_⟩
  show endI 0 (m_law [some (.scr (ns.map .int)), none, none, none, none, none, none, none, none, none] []) = _
  rw [run]
  unfold endI trim frzI frz1I
  rfl
end K05

open PySem PySem.W PySem.Calls PyProof.Rows
theorem PySem.Challenge.cw_lookedrows_k05_texts_of_conditions_holds : PySem.Challenge.rw_lookedrows_k05_texts_of_conditions.Holds := by
  w_on; o_law
  refine HandSHeadRun.head_any (r := OpenLaw.row PySem.Challenge.rw_lookedrows_k05_texts_of_conditions) (q := view (OpenLaw.row PySem.Challenge.rw_lookedrows_k05_texts_of_conditions).prog [48]) (H := K05.hk) (ob := K05.ob) (M := 6000) (loose := K05.loose) (d := HandSHeadRun.topDef (OpenLaw.row PySem.Challenge.rw_lookedrows_k05_texts_of_conditions).prog 48) (kwd := []) K05.ob_eq
    (by kernel_rfl) (fun s => by kernel_rfl) K05.run (by kernel_rfl) (by kernel_rfl) (by kernel_rfl) (by rfl) (by first | assumption | decide +kernel) (by decide +kernel) ⟨rfl, rfl, rfl, rfl, rfl, by decide +kernel⟩ ?hw ?hc
  case hw => w_witness2
  case hc => exact K05.fin K05.math
