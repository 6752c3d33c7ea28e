import PyProof.Rows.All
import Wide.All
import OpenK.AllK
import Wide.FinOn
import HandS.ForMost
import HandS.Exc
import HandS.FStr
import HandS.Wide
import HandS.Deep
import HandS.TryMany
import HandS.ExcOwn
import HandS.List
import HandS.Text
import HandS.TupAny
import HandS.WideBits
import KE.DataEq
import HandS.IsInst
import HandS.FStrTup
import HandS.Iter
import HandS.Comp
import HandS.Ends
import PyProof.ReprRoads
import HandS.HeadEnd
import HandS.EndBits
import HandS.ExcField
import HandS.Words
import HandS.Defaults
import HandS.HeadHook2
import HandS.Style
import KE.KExcSuper
import KE.KExcInit
import HandS.ExcValue
import HandS.Head2
import PySem.Challenge.RW_amongliars_k81_whole_texts_of_numbers_ro
set_option Elab.async false
set_option linter.all false
set_option maxRecDepth 100000
set_option maxHeartbeats 4000000
namespace Sm
open PySem PySem.Spec PyProof.Rows L2

/-! ## data -/
/-- a value that never changes -/
inductive D where
  | non | bl (b : Bool) | int (i : Int) | str (x : Str)
  | tup (l : List D) | lst (l : List D)
  | glo (x : Str) | bty (s : String)
  | obj (c : Str) (l : List (Str × D))
  | dic (l : List (Key × D))
  | dit (l : List (List Key × D))
  | scr (l : List Int)
/-- .. or a thing that changes, by its place in the store, or the error that is handled, with its fields -/
inductive Vl where
  | d (x : D) | ref (n : Nat) | xcp (l : List (Str × D))
inductive Cell where
  | lst (l : List D) | ins (c : Str) (l : List (Str × Vl))
abbrev Sto := List Cell
abbrev En := List (Option Vl)

/-- what is left out of all values; the error that is handled: its place, its class, its dict -/
structure Bx where
  l : List Addr
  xc : Option (Addr × Addr × Option Addr) := none
structure RC where
  K : PySem.W.Frag
  mg : Str → Option Value
  ph : List Addr
  bt : Bx
/-- the script: locked, or an object of the text -/
def ScrAt (K : PySem.W.Frag) (H : Hp) (a : Addr) (xs : List V) : Prop := (∃ o, H a = some (.frz o (.lst xs))) ∨
  ∃ (o : Obj) (its : Array Value) (n : Nat), K.lookup a = some o ∧ o.cls = .type "list" ∧ o.dict = none ∧ o.data = .seq its n ∧ its.size ≤ sizeLine ∧ Vals xs its.toList
theorem ScrAt.sq {K : PySem.W.Frag} {H : Hp} {a : Addr} {xs : List V} (h : ScrAt K H a xs) : SqL K H a xs := by
  rcases h with ⟨o, h⟩ | h
  · exact .inl (.inr ⟨o, h⟩)
  · exact .inr h
def RC.ex (c : RC) (a : Addr) : Prop := a ∉ c.ph ∧ a ∉ c.bt.l
def RC.up (c : RC) (l : List Addr) : RC := { c with ph := c.ph ++ l }

mutual
inductive Rep (c : RC) (H : Hp) : D → V → Prop
  | non : Rep c H .non .non
  | bl (b : Bool) : Rep c H (.bl b) (.bl b)
  | int (i : Int) : Rep c H (.int i) (.int i)
  | str (x : Str) : Rep c H (.str x) (.str x)
  | tup {a : Addr} {xs : List V} {ds : List D} : SqT c.K H a xs → Reps c H ds xs → Rep c H (.tup ds) (.ref a)
  | lst {a : Addr} {xs : List V} {ds : List D} : H a = some (.lst xs) → c.ex a → Reps c H ds xs → Rep c H (.lst ds) (.ref a)
  | glo {x : Str} {f : Addr} : c.mg x = some (.ref f) → Rep c H (.glo x) (.ref f)
  | bty (s : String) : Rep c H (.bty s) (.ty s)
  | obj {k : Str} {C a dx : Addr} {l : List (Str × D)} {fs : List (Str × V)} : c.mg k = some (.ref C) → H a = some (.ins C dx fs) → c.ex a → RepF c H l fs → Rep c H (.obj k l) (.ref a)
  | dic {a : Addr} {l : List (Key × D)} {fs : List (Key × V)} : H a = some (.dK fs) → c.ex a → RepK c H l fs → Rep c H (.dic l) (.ref a)
  | dit {a : Addr} {l : List (List Key × D)} {fs : List (List Key × V)} : H a = some (.dT fs) → c.ex a → RepT c H l fs → Rep c H (.dit l) (.ref a)
  | scr {a : Addr} {l : List Int} : ScrAt c.K H a (l.map V.int) → Rep c H (.scr l) (.ref a)
inductive Reps (c : RC) (H : Hp) : List D → List V → Prop
  | nil : Reps c H [] []
  | cons {d : D} {v : V} {ds : List D} {vs : List V} : Rep c H d v → Reps c H ds vs → Reps c H (d :: ds) (v :: vs)
inductive RepF (c : RC) (H : Hp) : List (Str × D) → List (Str × V) → Prop
  | nil : RepF c H [] []
  | cons {k : Str} {d : D} {v : V} {ds : List (Str × D)} {vs : List (Str × V)} : Rep c H d v → RepF c H ds vs → RepF c H ((k, d) :: ds) ((k, v) :: vs)
inductive RepK (c : RC) (H : Hp) : List (Key × D) → List (Key × V) → Prop
  | nil : RepK c H [] []
  | cons {k : Key} {d : D} {v : V} {ds : List (Key × D)} {vs : List (Key × V)} : Rep c H d v → RepK c H ds vs → RepK c H ((k, d) :: ds) ((k, v) :: vs)
inductive RepT (c : RC) (H : Hp) : List (List Key × D) → List (List Key × V) → Prop
  | nil : RepT c H [] []
  | cons {k : List Key} {d : D} {v : V} {ds : List (List Key × D)} {vs : List (List Key × V)} : Rep c H d v → RepT c H ds vs → RepT c H ((k, d) :: ds) ((k, v) :: vs)
end

/-- what later states keep of an earlier one -/
structure Ext (c : RC) (H : Hp) (c' : RC) (H' : Hp) : Prop where
  pre : ∃ l, c' = c.up l ∧ ∀ a ∈ l, H a = none
  live : ∀ a, H a ≠ none → H' a ≠ none
  same : ∀ a o, H a = some o → a ∉ c.ph → (∀ ps, o ≠ .tbl ps) → H' a = some o
  tups : ∀ a xs, H a = some (.tup xs) → H' a = some (.tup xs)
  frzs : ∀ a o u, H a = some (.frz o u) → H' a = some (.frz o u)
theorem RC.up_nil (c : RC) : c.up [] = c := by unfold RC.up; rw [List.append_nil]
theorem Ext.refl (c : RC) (H : Hp) : Ext c H c H := ⟨⟨[], c.up_nil.symm, fun _ z => nomatch z⟩, fun _ h => h, fun _ _ h _ _ => h, fun _ _ h => h, fun _ _ _ h => h⟩
theorem Ext.trans {c c1 c2 : RC} {H H1 H2 : Hp} (a : Ext c H c1 H1) (b : Ext c1 H1 c2 H2) : Ext c H c2 H2 := by
  obtain ⟨l, e1, f1⟩ := a.pre
  obtain ⟨m, e2, f2⟩ := b.pre
  subst e1
  subst e2
  have old : ∀ x, H x ≠ none → x ∉ c.ph → x ∉ (c.up l).ph := fun x hx hp hm => by
    rcases List.mem_append.mp hm with z | z
    · exact hp z
    · exact hx (f1 x z)
  refine ⟨⟨l ++ m, by unfold RC.up; simp only [List.append_assoc], fun x hx => ?_⟩, fun x h => b.live _ (a.live _ h), fun x o e hp nt => ?_, fun x xs e => b.tups _ _ (a.tups _ _ e), fun x o u e => b.frzs _ _ _ (a.frzs _ _ _ e)⟩
  · rcases List.mem_append.mp hx with z | z
    · exact f1 x z
    · cases q : H x with
      | none => rfl
      | some o => exact absurd (f2 x z) (a.live x (by rw [q]; exact fun z => nomatch z))
  · exact b.same _ _ (a.same _ _ e hp nt) (old x (by rw [e]; exact fun z => nomatch z) hp) nt

/-- the fixed part -/
structure Of (K : PySem.W.Frag) (mg : Str → Option Value) (bt : Bx) (c : RC) : Prop where
  K : c.K = K
  mg : c.mg = mg
  bt : c.bt = bt
theorem Ext.of {K : PySem.W.Frag} {mg : Str → Option Value} {bt : Bx} {c c' : RC} {H H' : Hp} (e : Ext c H c' H') (o : Of K mg bt c) : Of K mg bt c' := by
  obtain ⟨l, rfl, _⟩ := e.pre
  exact ⟨o.K, o.mg, o.bt⟩
theorem Ext.mg {c c' : RC} {H H' : Hp} (e : Ext c H c' H') : c'.mg = c.mg := by
  obtain ⟨l, rfl, _⟩ := e.pre
  rfl
theorem Ext.K {c c' : RC} {H H' : Hp} (e : Ext c H c' H') : c'.K = c.K := by
  obtain ⟨l, rfl, _⟩ := e.pre
  rfl
theorem Ext.ph {c c' : RC} {H H' : Hp} (e : Ext c H c' H') {n : Nat} {a : Addr} (h : c.ph[n]? = some a) : c'.ph[n]? = some a := by
  obtain ⟨l, rfl, _⟩ := e.pre
  show (c.ph ++ l)[n]? = some a
  rw [List.getElem?_append_left (List.getElem?_eq_some_iff.mp h).1]
  exact h
theorem Ext.ex {c c' : RC} {H H' : Hp} (e : Ext c H c' H') {a : Addr} (h : c.ex a) (n : H a ≠ none) : c'.ex a := by
  obtain ⟨l, rfl, f⟩ := e.pre
  refine ⟨fun z => ?_, h.2⟩
  rcases List.mem_append.mp z with z | z
  · exact h.1 z
  · exact n (f a z)
theorem rd_live {H : Hp} {a : Addr} {u : HO} (h : Rd H a u) : H a ≠ none := by
  rcases h with h | ⟨o, h⟩ <;> rw [h] <;> exact fun z => nomatch z
theorem Ext.sqT {c c' : RC} {H H' : Hp} (e : Ext c H c' H') {a : Addr} {xs : List V} (h : SqT c.K H a xs) : SqT c'.K H' a xs := by
  rw [e.K]
  rcases h with (h | ⟨o, h⟩) | h
  · exact .inl (.inl (e.tups _ _ h))
  · exact .inl (.inr ⟨o, e.frzs _ _ _ h⟩)
  · exact .inr h
theorem Ext.rdL {c c' : RC} {H H' : Hp} (e : Ext c H c' H') {a : Addr} {xs : List V} (x : c.ex a) (h : Rd H a (.lst xs)) : Rd H' a (.lst xs) := by
  rcases h with h | ⟨o, h⟩
  · exact .inl (e.same _ _ h x.1 fun _ z => nomatch z)
  · exact .inr ⟨o, e.frzs _ _ _ h⟩
/-- what a value's shape asks to be kept -/
structure Kpx (c : RC) (H : Hp) (c' : RC) (H' : Hp) : Prop where
  K : c'.K = c.K
  mg : c'.mg = c.mg
  ex : ∀ a, c.ex a → H a ≠ none → c'.ex a
  same : ∀ a o, H a = some o → c.ex a → (∀ ps, o ≠ .tbl ps) → H' a = some o
  tups : ∀ a xs, H a = some (.tup xs) → H' a = some (.tup xs)
  frzs : ∀ a o u, H a = some (.frz o u) → H' a = some (.frz o u)
theorem Ext.kpx {c c' : RC} {H H' : Hp} (e : Ext c H c' H') : Kpx c H c' H' := ⟨e.K, e.mg, fun a h n => e.ex h n, fun a o h x nt => e.same a o h x.1 nt, e.tups, e.frzs⟩
theorem Kpx.sqT {c c' : RC} {H H' : Hp} (e : Kpx c H c' H') {a : Addr} {xs : List V} (h : SqT c.K H a xs) : SqT c'.K H' a xs := by
  rw [e.K]
  rcases h with (h | ⟨o, h⟩) | h
  · exact .inl (.inl (e.tups _ _ h))
  · exact .inl (.inr ⟨o, e.frzs _ _ _ h⟩)
  · exact .inr h
mutual
theorem Rep.kp {c c' : RC} {H H' : Hp} (e : Kpx c H c' H') : ∀ (d : D) (v : V), Rep c H d v → Rep c' H' d v
  | .non, _, h => by cases h; exact .non
  | .bl b, _, h => by cases h; exact .bl b
  | .int i, _, h => by cases h; exact .int i
  | .str x, _, h => by cases h; exact .str x
  | .tup ds, _, h => by
    cases h with
    | tup hs hr => exact .tup (e.sqT hs) (Reps.kp e ds _ hr)
  | .lst ds, _, h => by
    cases h with
    | lst hs hx hr => exact .lst (e.same _ _ hs hx fun _ z => nomatch z) (e.ex _ hx (by rw [hs]; exact fun z => nomatch z)) (Reps.kp e ds _ hr)
  | .glo x, _, h => by
    cases h with
    | glo h => exact .glo (by rw [e.mg]; exact h)
  | .bty s, _, h => by cases h; exact .bty s
  | .obj k l, _, h => by
    cases h with
    | obj h1 h2 h3 h4 => exact .obj (by rw [e.mg]; exact h1) (e.same _ _ h2 h3 fun _ z => nomatch z) (e.ex _ h3 (by rw [h2]; exact fun z => nomatch z)) (RepF.kp e l _ h4)
  | .dic l, _, h => by
    cases h with
    | dic h2 h3 h4 => exact .dic (e.same _ _ h2 h3 fun _ z => nomatch z) (e.ex _ h3 (by rw [h2]; exact fun z => nomatch z)) (RepK.kp e l _ h4)
  | .dit l, _, h => by
    cases h with
    | dit h2 h3 h4 => exact .dit (e.same _ _ h2 h3 fun _ z => nomatch z) (e.ex _ h3 (by rw [h2]; exact fun z => nomatch z)) (RepT.kp e l _ h4)
  | .scr l, _, h => by
    cases h with
    | scr h => exact .scr (by
        rw [e.K]
        rcases h with ⟨o, h⟩ | h
        · exact .inl ⟨o, e.frzs _ _ _ h⟩
        · exact .inr h)
theorem Reps.kp {c c' : RC} {H H' : Hp} (e : Kpx c H c' H') : ∀ (ds : List D) (vs : List V), Reps c H ds vs → Reps c' H' ds vs
  | [], _, h => by cases h; exact .nil
  | d :: ds, _, h => by
    cases h with
    | cons h1 h2 => exact .cons (Rep.kp e d _ h1) (Reps.kp e ds _ h2)
theorem RepF.kp {c c' : RC} {H H' : Hp} (e : Kpx c H c' H') : ∀ (ds : List (Str × D)) (vs : List (Str × V)), RepF c H ds vs → RepF c' H' ds vs
  | [], _, h => by cases h; exact .nil
  | (k, d) :: ds, _, h => by
    cases h with
    | cons h1 h2 => exact .cons (Rep.kp e d _ h1) (RepF.kp e ds _ h2)
theorem RepK.kp {c c' : RC} {H H' : Hp} (e : Kpx c H c' H') : ∀ (ds : List (Key × D)) (vs : List (Key × V)), RepK c H ds vs → RepK c' H' ds vs
  | [], _, h => by cases h; exact .nil
  | (k, d) :: ds, _, h => by
    cases h with
    | cons h1 h2 => exact .cons (Rep.kp e d _ h1) (RepK.kp e ds _ h2)
theorem RepT.kp {c c' : RC} {H H' : Hp} (e : Kpx c H c' H') : ∀ (ds : List (List Key × D)) (vs : List (List Key × V)), RepT c H ds vs → RepT c' H' ds vs
  | [], _, h => by cases h; exact .nil
  | (k, d) :: ds, _, h => by
    cases h with
    | cons h1 h2 => exact .cons (Rep.kp e d _ h1) (RepT.kp e ds _ h2)
end
theorem Rep.mono {c c' : RC} {H H' : Hp} (e : Ext c H c' H') (d : D) (v : V) (h : Rep c H d v) : Rep c' H' d v := Rep.kp e.kpx d v h
theorem Reps.mono {c c' : RC} {H H' : Hp} (e : Ext c H c' H') (d : List D) (v : List V) (h : Reps c H d v) : Reps c' H' d v := Reps.kp e.kpx d v h
theorem RepF.mono {c c' : RC} {H H' : Hp} (e : Ext c H c' H') (d : List (Str × D)) (v : List (Str × V)) (h : RepF c H d v) : RepF c' H' d v := RepF.kp e.kpx d v h
theorem Reps.length {c : RC} {H : Hp} : ∀ {ds : List D} {vs : List V}, Reps c H ds vs → ds.length = vs.length
  | [], _, h => by cases h; rfl
  | d :: ds, _, h => by
    cases h with
    | cons h1 h2 => rw [List.length_cons, List.length_cons, Reps.length h2]
theorem Reps.get {c : RC} {H : Hp} : ∀ {ds : List D} {vs : List V} {i : Nat} {d : D}, Reps c H ds vs → ds[i]? = some d → ∃ v, vs[i]? = some v ∧ Rep c H d v
  | [], _, _, _, _, e => by simp at e
  | d :: ds, _, 0, _, h, e => by
    cases h with
    | cons h1 h2 => cases e; exact ⟨_, rfl, h1⟩
  | d :: ds, _, i + 1, _, h, e => by
    cases h with
    | cons h1 h2 => exact Reps.get (i := i) h2 (by simpa using e)
theorem Reps.append {c : RC} {H : Hp} : ∀ {ds es : List D} {vs ws : List V}, Reps c H ds vs → Reps c H es ws → Reps c H (ds ++ es) (vs ++ ws)
  | [], _, _, _, h, k => by cases h; exact k
  | d :: ds, _, _, _, h, k => by
    cases h with
    | cons h1 h2 => exact .cons h1 (Reps.append h2 k)
theorem Reps.take {c : RC} {H : Hp} : ∀ {ds : List D} {vs : List V} (n : Nat), Reps c H ds vs → Reps c H (ds.take n) (vs.take n)
  | _, _, 0, _ => .nil
  | [], _, n + 1, h => by cases h; exact .nil
  | d :: ds, _, n + 1, h => by
    cases h with
    | cons h1 h2 => exact .cons h1 (Reps.take n h2)
theorem Reps.drop {c : RC} {H : Hp} : ∀ {ds : List D} {vs : List V} (n : Nat), Reps c H ds vs → Reps c H (ds.drop n) (vs.drop n)
  | _, _, 0, h => h
  | [], _, n + 1, h => by cases h; exact .nil
  | d :: ds, _, n + 1, h => by
    cases h with
    | cons h1 h2 => exact Reps.drop n h2
/-- the exclusions traded -/
def RC.re (c : RC) (l m : List Addr) : RC := { c with ph := l, bt := { c.bt with l := m } }
theorem kpx_re {c : RC} {l m : List Addr} {H : Hp} (e : ∀ a, c.ex a → H a ≠ none → a ∉ l ∧ a ∉ m) : Kpx c H (c.re l m) H := ⟨rfl, rfl, e, fun _ _ h _ _ => h, fun _ _ h => h, fun _ _ _ h => h⟩

/-! ## the store, the names -/
/-- the error's own fields -/
def XF (c : RC) (H : Hp) (l : List (Str × D)) (dd : Option Addr) : Prop := (l = [] ∧ dd = none) ∨ ∃ d fs, dd = some d ∧ H d = some (.xd fs) ∧ c.ex d ∧ RepF c H l fs
theorem XF.kp {c c' : RC} {H H' : Hp} (e : Kpx c H c' H') {l : List (Str × D)} {dd : Option Addr} (h : XF c H l dd) : XF c' H' l dd := by
  rcases h with h | ⟨d, fs, h1, h2, h3, h4⟩
  · exact .inl h
  · exact .inr ⟨d, fs, h1, e.same _ _ h2 h3 (fun _ z => nomatch z), e.ex _ h3 (by rw [h2]; exact fun z => nomatch z), RepF.kp e _ _ h4⟩
inductive RepV (c : RC) (H : Hp) : Vl → V → Prop
  | d {x : D} {v : V} : Rep c H x v → RepV c H (.d x) v
  | ref {n : Nat} {a : Addr} : c.ph[n]? = some a → RepV c H (.ref n) (.ref a)
  | xcp {l : List (Str × D)} {a C : Addr} {dd : Option Addr} : c.bt.xc = some (a, C, dd) → XF c H l dd → RepV c H (.xcp l) (.ref a)
inductive RepVs (c : RC) (H : Hp) : List Vl → List V → Prop
  | nil : RepVs c H [] []
  | cons {d : Vl} {v : V} {ds : List Vl} {vs : List V} : RepV c H d v → RepVs c H ds vs → RepVs c H (d :: ds) (v :: vs)
inductive RepVF (c : RC) (H : Hp) : List (Str × Vl) → List (Str × V) → Prop
  | nil : RepVF c H [] []
  | cons {k : Str} {d : Vl} {v : V} {ds : List (Str × Vl)} {vs : List (Str × V)} : RepV c H d v → RepVF c H ds vs → RepVF c H ((k, d) :: ds) ((k, v) :: vs)
theorem Ext.bt {c c' : RC} {H H' : Hp} (e : Ext c H c' H') : c'.bt = c.bt := by
  obtain ⟨l, rfl, _⟩ := e.pre
  rfl
theorem RepV.mono {c c' : RC} {H H' : Hp} (e : Ext c H c' H') {x : Vl} {v : V} (h : RepV c H x v) : RepV c' H' x v := by
  cases h with
  | d h => exact .d (Rep.mono e _ _ h)
  | ref h => exact .ref (e.ph h)
  | xcp h x => exact .xcp (by rw [e.bt]; exact h) (x.kp e.kpx)
theorem RepVs.mono {c c' : RC} {H H' : Hp} (e : Ext c H c' H') : ∀ {x : List Vl} {v : List V}, RepVs c H x v → RepVs c' H' x v
  | _, _, .nil => .nil
  | _, _, .cons h t => .cons (h.mono e) (RepVs.mono e t)
theorem RepV.kp {c c' : RC} {H H' : Hp} (e : Kpx c H c' H') (p : c'.ph = c.ph) (px : c'.bt.xc = c.bt.xc) {x : Vl} {v : V} (h : RepV c H x v) : RepV c' H' x v := by
  cases h with
  | d h => exact .d (Rep.kp e _ _ h)
  | ref h => exact .ref (by rw [p]; exact h)
  | xcp h x => exact .xcp (by rw [px]; exact h) (x.kp e)
theorem RepVF.kp {c c' : RC} {H H' : Hp} (e : Kpx c H c' H') (p : c'.ph = c.ph) (px : c'.bt.xc = c.bt.xc) : ∀ {x : List (Str × Vl)} {v : List (Str × V)}, RepVF c H x v → RepVF c' H' x v
  | _, _, .nil => .nil
  | _, _, .cons h t => .cons (h.kp e p px) (RepVF.kp e p px t)
theorem RepVF.mono {c c' : RC} {H H' : Hp} (e : Ext c H c' H') : ∀ {x : List (Str × Vl)} {v : List (Str × V)}, RepVF c H x v → RepVF c' H' x v
  | _, _, .nil => .nil
  | _, _, .cons h t => .cons (h.mono e) (RepVF.mono e t)
theorem RepVs.length {c : RC} {H : Hp} : ∀ {x : List Vl} {v : List V}, RepVs c H x v → x.length = v.length
  | _, _, .nil => rfl
  | _, _, .cons h t => by rw [List.length_cons, List.length_cons, RepVs.length t]
/-- the error that is handled put aside -/
def RC.nx (c : RC) : RC := { c with bt := { l := c.bt.l } }
theorem Kpx.nx {c c' : RC} {H H' : Hp} (e : Kpx c H c' H') : Kpx c.nx H c'.nx H' := ⟨e.K, e.mg, e.ex, e.same, e.tups, e.frzs⟩
theorem Ext.nx {c c' : RC} {H H' : Hp} (e : Ext c H c' H') : Ext c.nx H c'.nx H' := by
  obtain ⟨l, rfl, hl⟩ := e.pre
  exact ⟨⟨l, rfl, hl⟩, e.live, e.same, e.tups, e.frzs⟩
def CellOk (c : RC) (H : Hp) (a : Addr) : Cell → Prop
  | .lst l => ∃ xs, H a = some (.lst xs) ∧ Reps c H l xs
  | .ins k l => ∃ C dx fs, c.mg k = some (.ref C) ∧ H a = some (.ins C dx fs) ∧ RepVF c.nx H l fs
structure SOk (c : RC) (H : Hp) (S : Sto) : Prop where
  len : c.ph.length = S.length
  nd : c.ph.Nodup
  lvb : ∀ a ∈ c.bt.l, H a ≠ none
  cell : ∀ (n : Nat) (x : Cell) (a : Addr), S[n]? = some x → c.ph[n]? = some a → CellOk c H a x
theorem CellOk.live {c : RC} {H : Hp} {a : Addr} {x : Cell} (h : CellOk c H a x) : H a ≠ none := by
  cases x with
  | lst l => obtain ⟨xs, e, _⟩ := h; rw [e]; exact fun z => nomatch z
  | ins k l => obtain ⟨_, _, _, _, e, _⟩ := h; rw [e]; exact fun z => nomatch z
theorem SOk.live {c : RC} {H : Hp} {S : Sto} (h : SOk c H S) : ∀ a ∈ c.ph, H a ≠ none := fun a ha => by
  obtain ⟨n, hn, e⟩ := List.getElem_of_mem ha
  have h1 : c.ph[n]? = some a := by rw [List.getElem?_eq_getElem hn, e]
  have h2 : n < S.length := by rw [← h.len]; exact hn
  exact (h.cell n S[n] a (List.getElem?_eq_getElem h2) h1).live
/-- all that is tracked is kept -/
def Kp (H H' : Hp) : Prop := ∀ a o, H a = some o → (∀ ps, o ≠ .tbl ps) → H' a = some o
theorem Kp.ext {c : RC} {H H' : Hp} (k : Kp H H') (lv : ∀ a, H a ≠ none → H' a ≠ none) : Ext c H c H' :=
  ⟨⟨[], c.up_nil.symm, fun _ z => nomatch z⟩, lv, fun a o e _ nt => k a o e nt, fun a xs e => k a _ e (fun _ z => nomatch z), fun a o u e => k a _ e (fun _ z => nomatch z)⟩
theorem CellOk.kept {c c' : RC} {H H' : Hp} {a : Addr} {x : Cell} (e : Ext c H c' H') (k : ∀ o, H a = some o → (∀ ps, o ≠ .tbl ps) → H' a = some o) (h : CellOk c H a x) : CellOk c' H' a x := by
  cases x with
  | lst l =>
    obtain ⟨xs, h1, h2⟩ := h
    exact ⟨xs, k _ h1 (fun _ z => nomatch z), Reps.mono e _ _ h2⟩
  | ins k' l =>
    obtain ⟨C, dx, fs, h0, h1, h2⟩ := h
    exact ⟨C, dx, fs, by rw [e.mg]; exact h0, k _ h1 (fun _ z => nomatch z), h2.mono e.nx⟩
theorem CellOk.kp {c c' : RC} {H H' : Hp} {a : Addr} {x : Cell} (e : Kpx c H c' H') (p : c'.ph = c.ph) (k : ∀ o, H a = some o → (∀ ps, o ≠ .tbl ps) → H' a = some o) (h : CellOk c H a x) : CellOk c' H' a x := by
  cases x with
  | lst l =>
    obtain ⟨xs, h1, h2⟩ := h
    exact ⟨xs, k _ h1 (fun _ z => nomatch z), Reps.kp e _ _ h2⟩
  | ins k' l =>
    obtain ⟨C, dx, fs, h0, h1, h2⟩ := h
    exact ⟨C, dx, fs, by rw [e.mg]; exact h0, k _ h1 (fun _ z => nomatch z), h2.kp e.nx p rfl⟩
theorem SOk.kp {c c' : RC} {H H' : Hp} {S : Sto} (e : Kpx c H c' H') (p : c'.ph = c.ph) (lvb : ∀ a ∈ c'.bt.l, H' a ≠ none) (k : ∀ a ∈ c.ph, ∀ o, H a = some o → (∀ ps, o ≠ .tbl ps) → H' a = some o) (h : SOk c H S) : SOk c' H' S :=
  ⟨by rw [p]; exact h.len, by rw [p]; exact h.nd, lvb, fun n x a e1 e2 => (h.cell n x a e1 (by rw [← p]; exact e2)).kp e p (k a (List.mem_of_getElem? (by rw [← p]; exact e2)))⟩
theorem SOk.kept {c : RC} {H H' : Hp} {S : Sto} (k : Kp H H') (lv : ∀ a, H a ≠ none → H' a ≠ none) (h : SOk c H S) : SOk c H' S :=
  ⟨h.len, h.nd, fun a ha => lv a (h.lvb a ha), fun n x a e1 e2 => (h.cell n x a e1 e2).kept (k.ext lv) fun o e nt => k a o e nt⟩
theorem upd_live {H : Hp} {p : Addr} {o : HO} : ∀ a, H a ≠ none → upd H p o a ≠ none := fun a h => by
  by_cases e : a = p
  · rw [e, upd_same]; exact fun z => nomatch z
  · rw [upd_ne e]; exact h
theorem kp_upd {H : Hp} {p : Addr} {o : HO} (h : H p = none) : Kp H (upd H p o) := fun a x e _ => by
  rw [upd_ne (ne_of_none e h)]; exact e
theorem Ext.fresh {c : RC} {H : Hp} {p : Addr} {o : HO} (h : H p = none) : Ext c H c (upd H p o) := (kp_upd h).ext upd_live
theorem SOk.fresh {c : RC} {H : Hp} {p : Addr} {o : HO} {S : Sto} (s : SOk c H S) (h : H p = none) : SOk c (upd H p o) S := s.kept (kp_upd h) upd_live
theorem SOk.exF {c : RC} {H : Hp} {S : Sto} (s : SOk c H S) {p : Addr} (h : H p = none) : c.ex p := ⟨fun z => s.live p z h, fun z => s.lvb p z h⟩
/-- the names -/
structure EnOk (c : RC) (H : Hp) (en : En) (σ : L2.St) : Prop where
  len : en.length = σ.length
  at_ : ∀ (i : Nat) (x : Vl), en[i]? = some (some x) → ∃ v, σ[i]? = some (some v) ∧ RepV c H x v
theorem EnOk.mono {c c' : RC} {H H' : Hp} {en : En} {σ : L2.St} (e : Ext c H c' H') (h : EnOk c H en σ) : EnOk c' H' en σ :=
  ⟨h.len, fun i x hx => let ⟨v, h1, h2⟩ := h.at_ i x hx; ⟨v, h1, h2.mono e⟩⟩
theorem EnOk.kp {c c' : RC} {H H' : Hp} {en : En} {σ : L2.St} (e : Kpx c H c' H') (p : c'.ph = c.ph) (px : c'.bt.xc = c.bt.xc) (h : EnOk c H en σ) : EnOk c' H' en σ :=
  ⟨h.len, fun i x hx => let ⟨v, h1, h2⟩ := h.at_ i x hx; ⟨v, h1, h2.kp e p px⟩⟩
theorem EnOk.set {c : RC} {H : Hp} {en : En} {σ : L2.St} {i : Nat} {x : Vl} {v : V} (h : EnOk c H en σ) (r : RepV c H x v) : EnOk c H (en.set i (some x)) (σ.set i (some v)) := by
  refine ⟨by rw [List.length_set, List.length_set]; exact h.len, fun j y e => ?_⟩
  by_cases hj : i = j
  · subst hj
    by_cases hl : i < en.length
    · rw [List.getElem?_set_self hl] at e
      cases e
      exact ⟨v, List.getElem?_set_self (by rw [← h.len]; exact hl), r⟩
    · rw [List.getElem?_eq_none (by rw [List.length_set]; omega)] at e
      cases e
  · rw [List.getElem?_set_ne hj] at e ⊢
    exact h.at_ j y e
theorem EnOk.unset {c : RC} {H : Hp} {en : En} {σ : L2.St} {i : Nat} (h : EnOk c H en σ) : EnOk c H (en.set i none) (σ.set i none) := by
  refine ⟨by rw [List.length_set, List.length_set]; exact h.len, fun j y e => ?_⟩
  by_cases hj : i = j
  · subst hj
    by_cases hl : i < en.length
    · rw [List.getElem?_set_self hl] at e
      cases e
    · rw [List.getElem?_eq_none (by rw [List.length_set]; omega)] at e
      cases e
  · rw [List.getElem?_set_ne hj] at e ⊢
    exact h.at_ j y e

/-! ## what comes out -/
inductive Out (α : Type) where
  | ok (a : α) (s : Sto) | exc (k : Str) (l : List (Str × D)) (s : Sto) | bad
def Out.bind {α β : Type} (o : Out α) (f : α → Sto → Out β) : Out β := match o with
  | .ok a s => f a s
  | .exc k l s => .exc k l s
  | .bad => .bad
def PostG {α ω : Type} (rel : RC → Hp → α → ω → Prop) (c : RC) (W : WX) (H : Hp) (σ : L2.St) (Q : ω → Hp → Prop) : Out α → Prop
  | .ok x s => ∀ c' H' v, Ext c H c' H' → SOk c' H' s → rel c' H' x v → Q v H'
  | .exc k l s => ∀ c' H' C dd, c.mg k = some (.ref C) → Ext c H c' H' → SOk c' H' s → XF c' H' l dd → W (.ref C) dd σ H'
  | .bad => False
theorem PostG.shift {α ω : Type} {rel : RC → Hp → α → ω → Prop} {c c1 : RC} {W : WX} {H H1 : Hp} {σ : L2.St} {Q : ω → Hp → Prop} {o : Out α} (h : PostG rel c W H σ Q o) (e : Ext c H c1 H1) : PostG rel c1 W H1 σ Q o := by
  cases o with
  | ok x s => exact fun c' H' v e' so r => h c' H' v (e.trans e') so r
  | exc k l s => exact fun c' H' C dd hk e' so x => h c' H' C dd (by rw [← e.mg]; exact hk) (e.trans e') so x
  | bad => exact h
theorem PostG.bind {α ω β ω' : Type} {rel : RC → Hp → α → ω → Prop} {rel' : RC → Hp → β → ω' → Prop} {c : RC} {W : WX} {H : Hp} {σ : L2.St} {Q : ω' → Hp → Prop} {o : Out α} {f : α → Sto → Out β} {R : ω → Hp → Prop}
    (h : PostG rel' c W H σ Q (o.bind f)) (k : ∀ x s c' H' v, Ext c H c' H' → SOk c' H' s → rel c' H' x v → PostG rel' c' W H' σ Q (f x s) → R v H') : PostG rel c W H σ R o := by
  cases o with
  | ok x s => exact fun c' H' v e so r => k x s c' H' v e so r (PostG.shift (show PostG rel' c W H σ Q (f x s) from h) e)
  | exc kk l s => exact h
  | bad => exact h
def tG {α ω : Type} (rel : RC → Hp → α → ω → Prop) (K : PySem.W.Frag) (mg : Str → Option Value) (bt : Bx) (f : En → Sto → Out α) (W : WX) : L2.St → Hp → (ω → Hp → Prop) → Prop := fun σ H Q =>
  ∃ c en s, Of K mg bt c ∧ SOk c H s ∧ EnOk c H en σ ∧ PostG rel c W H σ Q (f en s)
abbrev relB : RC → Hp → Bool → Bool → Prop := fun _ _ a b => a = b
/-- an expression, a test, arguments -/
def SE (X : Cx) (bt : Bx) (W : WX) (e : Expr) (f : En → Sto → Out Vl) : Prop := PE X e (tG RepV X.K X.mg bt f W)
def ST (X : Cx) (bt : Bx) (W : WX) (e : Expr) (f : En → Sto → Out Bool) : Prop := PT X e (tG relB X.K X.mg bt f W)
def SA (X : Cx) (bt : Bx) (W : WX) (es : List Expr) (f : En → Sto → Out (List Vl)) : Prop := PA X es (tG RepVs X.K X.mg bt f W)
/-- a statement's end -/
inductive SO where
  | nx (en : En) (s : Sto) | rt (x : Vl) (s : Sto) | bk (en : En) (s : Sto) | ct (en : En) (s : Sto) | exc (k : Str) (l : List (Str × D)) (en : En) (s : Sto) | bad
def PostS (c : RC) (W : WX) (H : Hp) (E : Ends) : SO → Prop
  | .nx en s => ∀ c' H' σ', Ext c H c' H' → SOk c' H' s → EnOk c' H' en σ' → E.nx σ' H'
  | .bk en s => ∀ c' H' σ', Ext c H c' H' → SOk c' H' s → EnOk c' H' en σ' → E.bk σ' H'
  | .ct en s => ∀ c' H' σ', Ext c H c' H' → SOk c' H' s → EnOk c' H' en σ' → E.ct σ' H'
  | .rt x s => ∀ c' H' v, Ext c H c' H' → SOk c' H' s → RepV c' H' x v → E.rt v H'
  | .exc k l en s => ∀ c' H' σ' C dd, c.mg k = some (.ref C) → Ext c H c' H' → SOk c' H' s → EnOk c' H' en σ' → XF c' H' l dd → W (.ref C) dd σ' H'
  | .bad => False
theorem PostS.shift {c c1 : RC} {W : WX} {H H1 : Hp} {E : Ends} {o : SO} (h : PostS c W H E o) (e : Ext c H c1 H1) : PostS c1 W H1 E o := by
  cases o with
  | nx en s => exact fun c' H' σ' e' so eo => h c' H' σ' (e.trans e') so eo
  | bk en s => exact fun c' H' σ' e' so eo => h c' H' σ' (e.trans e') so eo
  | ct en s => exact fun c' H' σ' e' so eo => h c' H' σ' (e.trans e') so eo
  | rt x s => exact fun c' H' v e' so r => h c' H' v (e.trans e') so r
  | exc k l en s => exact fun c' H' σ' C dd hk e' so eo x => h c' H' σ' C dd (by rw [← e.mg]; exact hk) (e.trans e') so eo x
  | bad => exact h
def tS (K : PySem.W.Frag) (mg : Str → Option Value) (bt : Bx) (f : En → Sto → SO) (W : WX) : TS := fun E σ H =>
  ∃ c en s, Of K mg bt c ∧ SOk c H s ∧ EnOk c H en σ ∧ PostS c W H E (f en s)
def SS (X : Cx) (bt : Bx) (W : WX) (st : Stmt) (f : En → Sto → SO) : Prop := PS X st (tS X.K X.mg bt f W)
def SSs (X : Cx) (bt : Bx) (W : WX) (st : List Stmt) (f : En → Sto → SO) : Prop := PSs X st (tS X.K X.mg bt f W)
/-- an expression within a statement -/
def Out.then {α : Type} (o : Out α) (en : En) (f : α → Sto → SO) : SO := match o with
  | .ok a s => f a s
  | .exc k l s => .exc k l en s
  | .bad => .bad
theorem PostS.then {α ω : Type} {rel : RC → Hp → α → ω → Prop} {c : RC} {W : WX} {H : Hp} {σ : L2.St} {en : En} {E : Ends} {o : Out α} {f : α → Sto → SO} {R : ω → Hp → Prop} (h : PostS c W H E (o.then en f)) (eo : EnOk c H en σ)
    (k : ∀ x s c' H' v, Ext c H c' H' → SOk c' H' s → EnOk c' H' en σ → rel c' H' x v → PostS c' W H' E (f x s) → R v H') : PostG rel c W H σ R o := by
  cases o with
  | ok x s => exact fun c' H' v e so r => k x s c' H' v e so (eo.mono e) r (PostS.shift (show PostS c W H E (f x s) from h) e)
  | exc kk l s => exact fun c' H' C dd hk e so x => h c' H' σ C dd hk e so (eo.mono e) x
  | bad => exact h
def SO.then (o : SO) (g : En → Sto → SO) : SO := match o with
  | .nx en s => g en s
  | o => o

/-! ## weakening -/
theorem PE.weak {X : Cx} {e : Expr} {t t' : TE} (h : PE X e t) (w : ∀ σ H Q, t' σ H Q → t σ H Q) : PE X e t' := ⟨fun pins s σ H Q I q => h.run pins s σ H Q I (w σ H Q q)⟩
theorem PT.weak {X : Cx} {e : Expr} {t t' : TT} (h : PT X e t) (w : ∀ σ H Q, t' σ H Q → t σ H Q) : PT X e t' := ⟨fun pins s σ H Q I q => h.run pins s σ H Q I (w σ H Q q)⟩
theorem PA.weak {X : Cx} {e : List Expr} {t t' : TA} (h : PA X e t) (w : ∀ σ H Q, t' σ H Q → t σ H Q) : PA X e t' := ⟨fun pos pins s σ H Q I q => h.run pos pins s σ H Q I (w σ H Q q)⟩
theorem PS.weak {X : Cx} {e : Stmt} {t t' : TS} (h : PS X e t) (w : ∀ E σ H, t' E σ H → t E σ H) : PS X e t' := ⟨fun pins s σ H D I q => h.run pins s σ H D I (w D σ H q)⟩
theorem PSs.weak {X : Cx} {e : List Stmt} {t t' : TS} (h : PSs X e t) (w : ∀ E σ H, t' E σ H → t E σ H) : PSs X e t' := ⟨fun pins s σ H D I q => h.run pins s σ H D I (w D σ H q)⟩
end Sm
set_option Elab.async false
set_option linter.all false
set_option maxRecDepth 100000
set_option maxHeartbeats 4000000
namespace Sm
open PySem PySem.Spec PyProof.Rows L2

/-! ## where one stands -/
structure Here (X : Cx) (N : List Str) (sc : Scope) : Prop where
  N : X.N = N
  sc : X.env.scope = sc
def visB (sc : Scope) (x : Str) : Bool := (match sc.names.lookup x with
  | some .local => true | some .cell => true | some .free => true | _ => false) && !(x == ("__debug__" : Str)) && !(x == ("__classdict__" : Str))
def locB (sc : Scope) (x : Str) : Bool := match sc.names.lookup x with
  | some .local => true | some .cell => true | _ => false
def lclB (sc : Scope) (x : Str) : Bool := match sc.names.lookup x with
  | some .local => true | _ => false
def gloB (sc : Scope) (x : Str) : Bool := (match sc.names.lookup x with
  | some .globalImplicit => true | _ => false) && !(x == ("__debug__" : Str)) && !(x == ("__name__" : Str))
theorem visB_ok {sc : Scope} {x : Str} (h : visB sc x = true) : Vis sc x ∧ (x == ("__debug__" : Str)) = false ∧ (x == ("__classdict__" : Str)) = false := by
  unfold visB at h
  simp only [Bool.and_eq_true, Bool.not_eq_true'] at h
  obtain ⟨⟨h1, h2⟩, h3⟩ := h
  refine ⟨?_, h2, h3⟩
  unfold Vis
  split at h1 <;> simp_all
theorem locB_ok {sc : Scope} {x : Str} (h : locB sc x = true) : L2.Loc sc x := by
  unfold locB at h
  unfold L2.Loc
  split at h <;> simp_all
theorem lclB_ok {sc : Scope} {x : Str} (h : lclB sc x = true) : sc.names.lookup x = some .local := by
  unfold lclB at h
  split at h <;> simp_all
theorem gloB_ok {X : Cx} {sc : Scope} {x : Str} (hs : X.env.scope = sc) (h : gloB sc x = true) : Gl X x ∧ (x == ("__debug__" : Str)) = false ∧ x ≠ "__name__" := by
  unfold gloB at h
  simp only [Bool.and_eq_true, Bool.not_eq_true', beq_eq_false_iff_ne, ne_eq] at h
  obtain ⟨⟨h1, h2⟩, h3⟩ := h
  refine ⟨?_, beq_eq_false_iff_ne.mpr h2, h3⟩
  show X.env.scope.names.lookup x = _
  rw [hs]
  split at h1 <;> simp_all

/-- the context's facts -/
structure Cok (X : Cx) (W : WX) (k : Nat) : Prop where
  calm : X.calm = true
  nd : X.N.Nodup
  tk : Takes X W
  room : Room k X.A
  grd : X.A.guards = some []
  dig : X.base.NoDigits
  pas : PassesOwn (model X.prog X.w) X.A X.env X.xe

section
variable {X : Cx} {bt : Bx} {W : WX} {N : List Str} {sc : Scope}

/-! ## names, constants -/
def eVar (i : Nat) : En → Sto → Out Vl := fun en s => match en[i]? with
  | some (some x) => .ok x s
  | _ => .bad
theorem se_var (h : Here X N sc) (i : Nat) {x : Str} {p : Pos} (hi : N[i]? = some x := by rfl) (hv : visB sc x = true := by kernel_rfl) : SE X bt W (.Name x p) (eVar i) := by
  obtain ⟨v, d1, d2⟩ := visB_ok hv
  refine PE.weak (pe_var (i := i) (by rw [h.N]; exact hi) (by rw [h.sc]; exact v) d1 d2) fun σ H Q => ?_
  rintro ⟨c, en, s, of, so, eo, po⟩
  unfold eVar at po
  split at po
  · rename_i x e
    obtain ⟨v, e1, r⟩ := eo.at_ i x e
    exact ⟨v, e1, po c H v (Ext.refl c H) so r⟩
  · exact po.elim
def eC (d : D) : En → Sto → Out Vl := fun _ s => .ok (.d d) s
theorem se_c {e : Expr} {v : V} {d : D} (h : PE X e (tC v)) (r : ∀ c H, Of X.K X.mg bt c → Rep c H d v) : SE X bt W e (eC d) := by
  refine PE.weak h fun σ H Q => ?_
  rintro ⟨c, en, s, of, so, eo, po⟩
  exact po c H v (Ext.refl c H) so (.d (r c H of))
theorem se_int {i j p} : SE X bt W (.Constant (.int i) j p) (eC (.int i)) := se_c pe_int fun _ _ _ => .int i
theorem se_bl {b j p} : SE X bt W (.Constant (.bool b) j p) (eC (.bl b)) := se_c pe_bl fun _ _ _ => .bl b
theorem se_non {j p} : SE X bt W (.Constant .none j p) (eC .non) := se_c pe_non fun _ _ _ => .non
theorem se_str {x j p} : SE X bt W (.Constant (.str x) j p) (eC (.str x)) := se_c pe_str fun _ _ _ => .str x
/-- what a module's name holds -/
def GlD (K : PySem.W.Frag) (mg : Str → Option Value) (x : Str) (d : D) : Prop := ∃ u v, mg x = some u ∧ RelV v u ∧ ∀ (c : RC) (H : Hp), c.K = K → c.mg = mg → Rep c H d v
theorem se_glo (h : Here X N sc) {x : Str} {d : D} {p : Pos} (g : GlD X.K X.mg x d) (hg : gloB sc x = true := by kernel_rfl) : SE X bt W (.Name x p) (eC d) := by
  obtain ⟨u, v, e, r, k⟩ := g
  obtain ⟨g1, g2, _⟩ := gloB_ok h.sc hg
  exact se_c (pe_glob g1 e r g2) fun c H of => k c H of.K of.mg
theorem glD_ref {K : PySem.W.Frag} {mg : Str → Option Value} {x : Str} {f : Addr} (h : mg x = some (.ref f)) : GlD K mg x (.glo x) := ⟨_, .ref f, h, rfl, fun c H _ e => .glo (by rw [e]; exact h)⟩
theorem glD_int {K : PySem.W.Frag} {mg : Str → Option Value} {x : Str} {i : Int} (h : ∃ t, mg x = some (.int i t)) : GlD K mg x (.int i) := let ⟨t, h⟩ := h; ⟨_, .int i, h, ⟨t, rfl⟩, fun c H _ _ => .int i⟩
theorem glD_str {K : PySem.W.Frag} {mg : Str → Option Value} {x z : Str} (h : ∃ t, mg x = some (.str z t)) : GlD K mg x (.str z) := let ⟨t, h⟩ := h; ⟨_, .str z, h, ⟨t, rfl⟩, fun c H _ _ => .str z⟩
/-- a builtin type's name -/
theorem se_bty (h : Here X N sc) {x : Str} {T : String} {p : Pos} (hm : X.mg x = none) (hv : bootBuiltins x = some (.type T)) (hg : gloB sc x = true := by kernel_rfl) : SE X bt W (.Name x p) (eC (.bty T)) := by
  obtain ⟨g1, g2, g3⟩ := gloB_ok h.sc hg
  exact se_c (pe_bltn g1 hm hv (v := .ty T) rfl g3 g2) fun _ _ _ => .bty T

/-! ## two-place operations -/
def ofO {α : Type} : Option α → Sto → Out α
  | some a, s => .ok a s
  | none, _ => .bad
def rOp (K : PySem.W.Frag) (mg : Str → Option Value) (bt : Bx) (g : Sto → Vl → Vl → Option Vl) : R2 := fun x y H Q =>
  ∃ c s a b r, Of K mg bt c ∧ SOk c H s ∧ RepV c H a x ∧ RepV c H b y ∧ g s a b = some r ∧ ∀ H' z, Ext c H c H' → SOk c H' s → RepV c H' r z → Q z H'
def eBin (g : Sto → Vl → Vl → Option Vl) (fa fb : En → Sto → Out Vl) : En → Sto → Out Vl := fun en s => (fa en s).bind fun x s1 => (fb en s1).bind fun y s2 => ofO (g s2 x y) s2
theorem PostG.ofO {α ω : Type} {rel : RC → Hp → α → ω → Prop} {c : RC} {W : WX} {H : Hp} {σ : L2.St} {Q : ω → Hp → Prop} {o : Option α} {s : Sto} (h : PostG rel c W H σ Q (ofO o s)) : ∃ r, o = some r ∧ ∀ c' H' v, Ext c H c' H' → SOk c' H' s → rel c' H' r v → Q v H' := by
  cases o with
  | none => exact h.elim
  | some r => exact ⟨r, rfl, h⟩
/-- from the first operand to the second, then the operation -/
theorem bin_tG {g : Sto → Vl → Vl → Option Vl} {fa fb : En → Sto → Out Vl} {σ : L2.St} {H : Hp} {Q : VK} (h : tG RepV X.K X.mg bt (eBin g fa fb) W σ H Q) :
    tG RepV X.K X.mg bt fa W σ H fun x H1 => tG RepV X.K X.mg bt fb W σ H1 fun y H2 => rOp X.K X.mg bt g x y H2 Q := by
  obtain ⟨c, en, s, of, so, eo, po⟩ := h
  refine ⟨c, en, s, of, so, eo, po.bind fun a s1 c1 H1 v e1 so1 r1 po1 => ?_⟩
  refine ⟨c1, en, s1, e1.of of, so1, eo.mono e1, po1.bind fun b s2 c2 H2 w e2 so2 r2 po2 => ?_⟩
  obtain ⟨r, hr, q⟩ := po2.ofO
  exact ⟨c2, s2, a, b, r, e2.of (e1.of of), so2, r1.mono e2, r2, hr, fun H' z e so' rz => q c2 H' z e so' rz⟩
theorem se_bin {op : Operator} {g : Sto → Vl → Vl → Option Vl} {a b : Expr} {fa fb : En → Sto → Out Vl} {p : Pos} (o : OpR X (binaryOp op) (rOp X.K X.mg bt g)) (ha : SE X bt W a fa) (hb : SE X bt W b fb) : SE X bt W (.BinOp a op b p) (eBin g fa fb) :=
  PE.weak (pe_op o ha hb) fun _ _ _ => bin_tG
theorem se_cmp {op : CmpOp} {g : Sto → Vl → Vl → Option Vl} {a b : Expr} {fa fb : En → Sto → Out Vl} {p : Pos} (o : OpR X (compareOp op) (rOp X.K X.mg bt g)) (ha : SE X bt W a fa) (hb : SE X bt W b fb) (hm : behindInMarks op b = false := by kernel_rfl) :
    SE X bt W (.Compare a [op] [b] p) (eBin g fa fb) := PE.weak (pe_cmpR o ha hb hm) fun _ _ _ => bin_tG
/-- a value that is a truth value, as a test -/
def vB (o : Out Vl) : Out Bool := o.bind fun x s => match x with
  | .d (.bl b) => .ok b s
  | _ => .bad
def eTst (f : En → Sto → Out Vl) : En → Sto → Out Bool := fun en s => vB (f en s)
theorem PostG.vB {c : RC} {W : WX} {H : Hp} {σ : L2.St} {Q : Bool → Hp → Prop} {o : Out Vl} (h : PostG relB c W H σ Q (vB o)) : PostG RepV c W H σ (fun x H' => ∃ b, x = .bl b ∧ Q b H') o := by
  refine PostG.bind h fun x s c' H' v e so r po => ?_
  cases x with
  | ref n => exact po.elim
  | xcp l => exact po.elim
  | d x =>
    cases x <;> first | exact po.elim | skip
    rename_i b
    cases r with
    | d r =>
      cases r
      exact ⟨b, rfl, po c' H' b (Ext.refl _ _) so rfl⟩
theorem tst_tG {f : En → Sto → Out Vl} {σ : L2.St} {H : Hp} {Q : Bool → Hp → Prop} (h : tG relB X.K X.mg bt (eTst f) W σ H Q) : tG RepV X.K X.mg bt f W σ H fun x H' => ∃ b, x = .bl b ∧ Q b H' := by
  obtain ⟨c, en, s, of, so, eo, po⟩ := h
  exact ⟨c, en, s, of, so, eo, po.vB⟩
theorem st_cmp {op : CmpOp} {g : Sto → Vl → Vl → Option Vl} {a b : Expr} {fa fb : En → Sto → Out Vl} {p : Pos} (o : OpR X (compareOp op) (rOp X.K X.mg bt g)) (ha : SE X bt W a fa) (hb : SE X bt W b fb) (hm : behindInMarks op b = false := by kernel_rfl) :
    ST X bt W (.Compare a [op] [b] p) (eTst (eBin g fa fb)) := PT.weak (pt_cmpR o ha hb hm) fun _ _ _ h => bin_tG (tst_tG h)
/-- another expression's value as a test -/
theorem st_val {e : Expr} {f : En → Sto → Out Vl} (h : SE X bt W e f) (he : ∀ whole, isTrue e X.env whole = (do let v ← whole; standAt e.pos; holding [v] (truthy v)) := by intro _; rfl) : ST X bt W e (eTst f) :=
  PT.weak (pt_val h he) fun _ _ _ q => tst_tG q
/-- a chain of two comparisons -/
def eChn (g g' : Sto → Vl → Vl → Option Vl) (fa fb fc : En → Sto → Out Vl) : En → Sto → Out Vl := fun en s => (fa en s).bind fun x s1 => (fb en s1).bind fun y s2 => match g s2 x y with
  | some (.d (.bl true)) => (fc en s2).bind fun z s3 => ofO (g' s3 y z) s3
  | some (.d (.bl false)) => .ok (.d (.bl false)) s2
  | _ => .bad
theorem chn_tG {g g' : Sto → Vl → Vl → Option Vl} {fa fb fc : En → Sto → Out Vl} {σ : L2.St} {H : Hp} {Q : VK} (h : tG RepV X.K X.mg bt (eChn g g' fa fb fc) W σ H Q) :
    tChain (rOp X.K X.mg bt g) (rOp X.K X.mg bt g') (tG RepV X.K X.mg bt fa W) (tG RepV X.K X.mg bt fb W) (tG RepV X.K X.mg bt fc W) σ H Q := by
  obtain ⟨c, en, s, of, so, eo, po⟩ := h
  refine ⟨c, en, s, of, so, eo, po.bind fun a s1 c1 H1 v e1 so1 r1 po1 => ?_⟩
  refine ⟨c1, en, s1, e1.of of, so1, eo.mono e1, po1.bind fun b s2 c2 H2 w e2 so2 r2 po2 => ?_⟩
  split at po2
  · rename_i hg
    refine ⟨c2, s2, a, b, _, e2.of (e1.of of), so2, r1.mono e2, r2, hg, fun H' z e so' rz => ?_⟩
    cases rz with
    | d rz =>
      cases rz
      refine ⟨true, rfl, ?_⟩
      rw [if_pos rfl]
      refine ⟨c2, en, s2, e2.of (e1.of of), so', ((eo.mono e1).mono e2).mono e, (po2.shift e).bind fun d s3 c3 H3 u e3 so3 r3 po3 => ?_⟩
      obtain ⟨r, hr, q⟩ := po3.ofO
      exact ⟨c3, s3, b, d, r, e3.of (e2.of (e1.of of)), so3, (r2.mono e).mono e3, r3, hr, fun H' z e so' rz => q c3 H' z e so' rz⟩
  · rename_i hg
    refine ⟨c2, s2, a, b, _, e2.of (e1.of of), so2, r1.mono e2, r2, hg, fun H' z e so' rz => ?_⟩
    cases rz with
    | d rz =>
      cases rz
      refine ⟨false, rfl, ?_⟩
      rw [if_neg Bool.false_ne_true]
      exact po2 c2 H' _ e so' (.d (.bl false))
  · exact po2.elim
theorem se_chn {op op' : CmpOp} {g g' : Sto → Vl → Vl → Option Vl} {a b d : Expr} {fa fb fc : En → Sto → Out Vl} {p : Pos} (o : OpR X (compareOp op) (rOp X.K X.mg bt g)) (o' : OpR X (compareOp op') (rOp X.K X.mg bt g')) (ha : SE X bt W a fa) (hb : SE X bt W b fb) (hc : SE X bt W d fc)
    (hm : lastMarks [op, op'] [b, d] = false := by kernel_rfl) : SE X bt W (.Compare a [op, op'] [b, d] p) (eChn g g' fa fb fc) := PE.weak (pe_chain o o' ha hb hc hm) fun _ _ _ => chn_tG
theorem st_chn {op op' : CmpOp} {g g' : Sto → Vl → Vl → Option Vl} {a b d : Expr} {fa fb fc : En → Sto → Out Vl} {p : Pos} (o : OpR X (compareOp op) (rOp X.K X.mg bt g)) (o' : OpR X (compareOp op') (rOp X.K X.mg bt g')) (ha : SE X bt W a fa) (hb : SE X bt W b fb) (hc : SE X bt W d fc)
    (hm : lastMarks [op, op'] [b, d] = false := by kernel_rfl) : ST X bt W (.Compare a [op, op'] [b, d] p) (eTst (eChn g g' fa fb fc)) := PT.weak (pt_chain o o' ha hb hc hm) fun _ _ _ h => chn_tG (tst_tG h)
/-- one-place operations -/
def eUn (g : Vl → Option Vl) (fa : En → Sto → Out Vl) : En → Sto → Out Vl := fun en s => (fa en s).bind fun x s1 => ofO (g x) s1
def rUn (K : PySem.W.Frag) (mg : Str → Option Value) (bt : Bx) (g : Vl → Option Vl) : V → Hp → VK → Prop := fun x H Q =>
  ∃ c s a r, Of K mg bt c ∧ SOk c H s ∧ RepV c H a x ∧ g a = some r ∧ ∀ H' z, Ext c H c H' → SOk c H' s → RepV c H' r z → Q z H'
theorem se_un {op : UnaryOp} {g : Vl → Option Vl} {a : Expr} {fa : En → Sto → Out Vl} {p : Pos} (o : UnR X (unaryOp op) (rUn X.K X.mg bt g)) (ha : SE X bt W a fa) : SE X bt W (.UnaryOp op a p) (eUn g fa) := by
  refine PE.weak (pe_un o ha) fun σ H Q => ?_
  rintro ⟨c, en, s, of, so, eo, po⟩
  refine ⟨c, en, s, of, so, eo, po.bind fun a s1 c1 H1 v e1 so1 r1 po1 => ?_⟩
  obtain ⟨r, hr, q⟩ := po1.ofO
  exact ⟨c1, s1, a, r, e1.of of, so1, r1, hr, fun H' z e so' rz => q c1 H' z e so' rz⟩

/-! ## and, or, not, if -/
def eNot (f : En → Sto → Out Bool) : En → Sto → Out Bool := fun en s => (f en s).bind fun b s => .ok (!b) s
def eAnd (f g : En → Sto → Out Bool) : En → Sto → Out Bool := fun en s => (f en s).bind fun b s => if b = true then g en s else .ok false s
def eOr (f g : En → Sto → Out Bool) : En → Sto → Out Bool := fun en s => (f en s).bind fun b s => if b = true then .ok true s else g en s
theorem st_not {a : Expr} {f : En → Sto → Out Bool} {p : Pos} (h : ST X bt W a f) : ST X bt W (.UnaryOp .Not a p) (eNot f) := by
  refine PT.weak (pt_not h) fun σ H Q => ?_
  rintro ⟨c, en, s, of, so, eo, po⟩
  refine ⟨c, en, s, of, so, eo, po.bind fun a s1 c1 H1 v e1 so1 r1 po1 => ?_⟩
  subst r1
  exact po1 c1 H1 _ (Ext.refl _ _) so1 rfl
/-- and, or: whatever the whole is -/
def SW (X : Cx) (bt : Bx) (W : WX) (e : Expr) (f : En → Sto → Out Bool) : Prop := PW X e (tG relB X.K X.mg bt f W)
theorem PW.weak {e : Expr} {t t' : TT} (h : PW X e t) (w : ∀ σ H Q, t' σ H Q → t σ H Q) : PW X e t' := ⟨fun wh pins s σ H Q I q => h.run wh pins s σ H Q I (w σ H Q q)⟩
theorem sw_and1 {a : Expr} {f : En → Sto → Out Bool} {p : Pos} (h : ST X bt W a f) : SW X bt W (.BoolOp .And [a] p) f := pw_and1 h
theorem sw_or1 {a : Expr} {f : En → Sto → Out Bool} {p : Pos} (h : ST X bt W a f) : SW X bt W (.BoolOp .Or [a] p) f := pw_or1 h
theorem sw_and {a b : Expr} {rest : List Expr} {f g : En → Sto → Out Bool} {p : Pos} (h : ST X bt W a f) (k : SW X bt W (.BoolOp .And (b :: rest) p) g) : SW X bt W (.BoolOp .And (a :: b :: rest) p) (eAnd f g) := by
  refine PW.weak (pw_and h k) fun σ H Q => ?_
  rintro ⟨c, en, s, of, so, eo, po⟩
  refine ⟨c, en, s, of, so, eo, po.bind fun a s1 c1 H1 v e1 so1 r1 po1 => ?_⟩
  subst r1
  cases a with
  | true => rw [if_pos rfl] at po1 ⊢; exact ⟨c1, en, s1, e1.of of, so1, eo.mono e1, po1⟩
  | false => rw [if_neg Bool.false_ne_true] at po1 ⊢; exact po1 c1 H1 _ (Ext.refl _ _) so1 rfl
theorem sw_or {a b : Expr} {rest : List Expr} {f g : En → Sto → Out Bool} {p : Pos} (h : ST X bt W a f) (k : SW X bt W (.BoolOp .Or (b :: rest) p) g) : SW X bt W (.BoolOp .Or (a :: b :: rest) p) (eOr f g) := by
  refine PW.weak (pw_or h k) fun σ H Q => ?_
  rintro ⟨c, en, s, of, so, eo, po⟩
  refine ⟨c, en, s, of, so, eo, po.bind fun a s1 c1 H1 v e1 so1 r1 po1 => ?_⟩
  subst r1
  cases a with
  | true => rw [if_pos rfl] at po1 ⊢; exact po1 c1 H1 _ (Ext.refl _ _) so1 rfl
  | false => rw [if_neg Bool.false_ne_true] at po1 ⊢; exact ⟨c1, en, s1, e1.of of, so1, eo.mono e1, po1⟩
theorem st_w {e : Expr} {f : En → Sto → Out Bool} (h : SW X bt W e f) : ST X bt W e f := PW.pt h
/-- as values -/
def eBl (f : En → Sto → Out Bool) : En → Sto → Out Vl := fun en s => (f en s).bind fun b s => .ok (.d (.bl b)) s
def eAndV (f : En → Sto → Out Vl) (g : En → Sto → Out Vl) : En → Sto → Out Vl := fun en s => (vB (f en s)).bind fun b s => if b = true then g en s else .ok (.d (.bl false)) s
def eOrV (f : En → Sto → Out Vl) (g : En → Sto → Out Vl) : En → Sto → Out Vl := fun en s => (vB (f en s)).bind fun b s => if b = true then .ok (.d (.bl true)) s else g en s
def eNotV (f : En → Sto → Out Vl) : En → Sto → Out Vl := fun en s => (vB (f en s)).bind fun b s => .ok (.d (.bl (!b))) s
/-- behind a value that is a truth value -/
theorem vB_tG {f : En → Sto → Out Vl} {k : En → Bool → Sto → Out Vl} {σ : L2.St} {H : Hp} {Q : VK} {R : VK} (h : tG RepV X.K X.mg bt (fun en s => (vB (f en s)).bind (k en)) W σ H Q)
    (q : ∀ b c en s H, Of X.K X.mg bt c → SOk c H s → EnOk c H en σ → PostG RepV c W H σ Q (k en b s) → R (.bl b) H) : tG RepV X.K X.mg bt f W σ H R := by
  obtain ⟨c, en, s, of, so, eo, po⟩ := h
  refine ⟨c, en, s, of, so, eo, ?_⟩
  have z : PostG relB c W H σ (fun b H' => R (.bl b) H') (vB (f en s)) := PostG.bind po fun b s1 c1 H1 v e1 so1 r1 po1 => by
    subst r1
    exact q b c1 en s1 H1 (e1.of of) so1 (eo.mono e1) po1
  have z2 := z.vB
  cases hf : f en s with
  | ok x s' =>
    rw [hf] at z2
    exact fun c' H' v e so r => by obtain ⟨b, rfl, hb⟩ := z2 c' H' v e so r; exact hb
  | exc _ _ _ => rw [hf] at z2; exact z2
  | bad => rw [hf] at z2; exact z2
theorem se_one {op} {a : Expr} {f : En → Sto → Out Vl} {p : Pos} (h : SE X bt W a f) : SE X bt W (.BoolOp op [a] p) f := pe_one h
theorem se_and {a b : Expr} {rest : List Expr} {f g : En → Sto → Out Vl} {p : Pos} (h : SE X bt W a f) (k : SE X bt W (.BoolOp .And (b :: rest) p) g) : SE X bt W (.BoolOp .And (a :: b :: rest) p) (eAndV f g) := by
  refine PE.weak (pe_and h k) fun σ H Q hw => ?_
  refine vB_tG (k := fun en b s => if b = true then g en s else .ok (.d (.bl false)) s) hw fun b c en s H of so eo po => ⟨b, rfl, ?_⟩
  cases b with
  | true => rw [if_pos rfl] at po ⊢; exact ⟨c, en, s, of, so, eo, po⟩
  | false => rw [if_neg Bool.false_ne_true] at po ⊢; exact po c H _ (Ext.refl _ _) so (.d (.bl false))
theorem se_or {a b : Expr} {rest : List Expr} {f g : En → Sto → Out Vl} {p : Pos} (h : SE X bt W a f) (k : SE X bt W (.BoolOp .Or (b :: rest) p) g) : SE X bt W (.BoolOp .Or (a :: b :: rest) p) (eOrV f g) := by
  refine PE.weak (pe_or h k) fun σ H Q hw => ?_
  refine vB_tG (k := fun en b s => if b = true then .ok (.d (.bl true)) s else g en s) hw fun b c en s H of so eo po => ⟨b, rfl, ?_⟩
  cases b with
  | true => rw [if_pos rfl] at po ⊢; exact po c H _ (Ext.refl _ _) so (.d (.bl true))
  | false => rw [if_neg Bool.false_ne_true] at po ⊢; exact ⟨c, en, s, of, so, eo, po⟩
theorem se_not {a : Expr} {f : En → Sto → Out Vl} {p : Pos} (h : SE X bt W a f) : SE X bt W (.UnaryOp .Not a p) (eNotV f) := by
  refine PE.weak (pe_not h) fun σ H Q hw => ?_
  refine vB_tG (k := fun en b s => .ok (.d (.bl (!b))) s) hw fun b c en s H of so eo po => ⟨b, rfl, ?_⟩
  exact po c H _ (Ext.refl _ _) so (.d (.bl _))
def eIf (t : En → Sto → Out Bool) (f g : En → Sto → Out Vl) : En → Sto → Out Vl := fun en s => (t en s).bind fun b s => if b = true then f en s else g en s
theorem se_if {c a b : Expr} {t : En → Sto → Out Bool} {f g : En → Sto → Out Vl} {p : Pos} (hc : ST X bt W c t) (ha : SE X bt W a f) (hb : SE X bt W b g) : SE X bt W (.IfExp c a b p) (eIf t f g) := by
  refine PE.weak (pe_ifExp hc ha hb) fun σ H Q => ?_
  rintro ⟨c, en, s, of, so, eo, po⟩
  refine ⟨c, en, s, of, so, eo, po.bind fun a s1 c1 H1 v e1 so1 r1 po1 => ?_⟩
  subst r1
  cases a with
  | true => rw [if_pos rfl] at po1 ⊢; exact ⟨c1, en, s1, e1.of of, so1, eo.mono e1, po1⟩
  | false => rw [if_neg Bool.false_ne_true] at po1 ⊢; exact ⟨c1, en, s1, e1.of of, so1, eo.mono e1, po1⟩
end
end Sm
set_option Elab.async false
set_option linter.all false
set_option maxRecDepth 100000
set_option maxHeartbeats 4000000
namespace Sm
open PySem PySem.Spec PyProof.Rows L2

/-! ## operations on values -/
abbrev G2 := Sto → Vl → Vl → Option Vl
abbrev Opr (X : Cx) (bt : Bx) (f : Value → Value → Sem Value) (g : G2) : Prop := OpR X f (rOp X.K X.mg bt g)
def gor (g h : G2) : G2 := fun s a b => match g s a b with
  | some r => some r
  | none => h s a b
section
variable {X : Cx} {bt : Bx} {f : Value → Value → Sem Value}
theorem Opr.or {g h : G2} (p : Opr X bt f g) (q : Opr X bt f h) : Opr X bt f (gor g h) := by
  intro pins s σ H x y v u Q I rx ry hh
  obtain ⟨c, S, a, b, r, of, so, ra, rb, hg, k⟩ := hh
  unfold gor at hg
  split at hg
  · rename_i r' e
    cases hg
    exact p pins s σ H x y v u Q I rx ry ⟨c, S, a, b, _, of, so, ra, rb, e, k⟩
  · exact q pins s σ H x y v u Q I rx ry ⟨c, S, a, b, r, of, so, ra, rb, hg, k⟩
theorem Opr.of {g : G2} {r : R2} (o : OpR X f r) (w : ∀ x y H Q, rOp X.K X.mg bt g x y H Q → r x y H Q) : Opr X bt f g := fun pins s σ H x y v u Q I rx ry h => o pins s σ H x y v u Q I rx ry (w x y H Q h)
/-- whole numbers -/
def gI (C : Int → Int → Bool) (g : Int → Int → Int) : G2 := fun _ a b => match a, b with
  | .d (.int i), .d (.int j) => if C i j = true then some (.d (.int (g i j))) else none
  | _, _ => none
def gIb (g : Int → Int → Bool) : G2 := fun _ a b => match a, b with
  | .d (.int i), .d (.int j) => some (.d (.bl (g i j)))
  | _, _ => none
theorem opr_I {C : Int → Int → Bool} {g : Int → Int → Int} {P : Int → Int → Prop} (o : OpR X f (rI P fun i j => .int (g i j))) (hc : ∀ i j, C i j = true → P i j) : Opr X bt f (gI C g) := .of o fun x y H Q h => by
  obtain ⟨c, S, a, b, r, of, so, ra, rb, hg, k⟩ := h
  unfold gI at hg
  split at hg
  · split at hg
    · cases hg
      cases ra with | d ra => cases rb with | d rb =>
      cases ra
      cases rb
      exact ⟨_, _, rfl, rfl, hc _ _ (by assumption), k H _ (.refl _ _) so (.d (.int _))⟩
    · cases hg
  · cases hg
theorem opr_I0 {g : Int → Int → Int} (o : OpR X f (rI0 fun i j => .int (g i j))) : Opr X bt f (gI (fun _ _ => true) g) := .of o fun x y H Q h => by
  obtain ⟨c, S, a, b, r, of, so, ra, rb, hg, k⟩ := h
  unfold gI at hg
  split at hg
  · rw [if_pos rfl] at hg
    cases hg
    cases ra with | d ra => cases rb with | d rb =>
    cases ra
    cases rb
    exact ⟨_, _, rfl, rfl, k H _ (.refl _ _) so (.d (.int _))⟩
  · cases hg
theorem opr_Ib {g : Int → Int → Bool} (o : OpR X f (rI0 fun i j => .bl (g i j))) : Opr X bt f (gIb g) := .of o fun x y H Q h => by
  obtain ⟨c, S, a, b, r, of, so, ra, rb, hg, k⟩ := h
  unfold gIb at hg
  split at hg
  · cases hg
    cases ra with | d ra => cases rb with | d rb =>
    cases ra
    cases rb
    exact ⟨_, _, rfl, rfl, k H _ (.refl _ _) so (.d (.bl _))⟩
  · cases hg
/-! ### sequences -/
def asSeq (s : Sto) : Vl → Option (List D)
  | .d (.tup l) => some l
  | .d (.lst l) => some l
  | .d (.scr l) => some (l.map .int)
  | .ref n => match s[n]? with
    | some (.lst l) => some l
    | _ => none
  | _ => none
def asLst (s : Sto) : Vl → Option (List D)
  | .d (.lst l) => some l
  | .ref n => match s[n]? with
    | some (.lst l) => some l
    | _ => none
  | _ => none
theorem reps_ints {c : RC} {H : Hp} : ∀ l : List Int, Reps c H (l.map .int) (l.map V.int)
  | [] => .nil
  | i :: l => .cons (.int i) (reps_ints l)
theorem asLst_ok {c : RC} {H : Hp} {s : Sto} {v : Vl} {x : V} {l : List D} (so : SOk c H s) (r : RepV c H v x) (h : asLst s v = some l) : ∃ a xs, x = .ref a ∧ H a = some (.lst xs) ∧ Reps c H l xs := by
  unfold asLst at h
  split at h
  · cases h
    cases r with | d r =>
    cases r with | lst h1 h2 h3 => exact ⟨_, _, rfl, h1, h3⟩
  · split at h
    · cases h
      rename_i e
      cases r with | ref r =>
      obtain ⟨xs, h1, h2⟩ := so.cell _ _ _ e r
      exact ⟨_, _, rfl, h1, h2⟩
    · cases h
  · cases h
theorem asSeq_ok {c : RC} {H : Hp} {s : Sto} {v : Vl} {x : V} {l : List D} (so : SOk c H s) (r : RepV c H v x) (h : asSeq s v = some l) : ∃ a xs, x = .ref a ∧ Reps c H l xs ∧ (SqL c.K H a xs ∨ SqT c.K H a xs) := by
  unfold asSeq at h
  split at h
  · cases h
    cases r with | d r =>
    cases r with | tup h1 h2 => exact ⟨_, _, rfl, h2, .inr h1⟩
  · cases h
    cases r with | d r =>
    cases r with | lst h1 h2 h3 => exact ⟨_, _, rfl, h3, .inl (.inl (.of h1))⟩
  · cases h
    cases r with | d r =>
    cases r with | scr h1 => exact ⟨_, _, rfl, reps_ints _, .inl h1.sq⟩
  · split at h
    · cases h
      rename_i e
      cases r with | ref r =>
      obtain ⟨xs, h1, h2⟩ := so.cell _ _ _ e r
      exact ⟨_, _, rfl, h2, .inl (.inl (.of h1))⟩
    · cases h
  · cases h
theorem new_lst {c : RC} {H : Hp} {s : Sto} {p : Addr} {l : List D} {xs : List V} (so : SOk c H s) (hp : H p = none) (r : Reps c H l xs) : RepV c (upd H p (.lst xs)) (.d (.lst l)) (.ref p) :=
  .d (.lst upd_same (so.exF hp) (Reps.mono (Ext.fresh hp) _ _ r))
theorem new_tup {c : RC} {H : Hp} {p : Addr} {l : List D} {xs : List V} (hp : H p = none) (r : Reps c H l xs) : RepV c (upd H p (.tup xs)) (.d (.tup l)) (.ref p) :=
  .d (.tup (.inl (.of upd_same)) (Reps.mono (Ext.fresh hp) _ _ r))
/-! ### + -/
def gS (C : Str → Str → Bool) (g : Str → Str → D) : G2 := fun _ a b => match a, b with
  | .d (.str i), .d (.str j) => if C i j = true then some (.d (g i j)) else none
  | _, _ => none
def addSV : G2 := gS (fun i j => decide (i.length + j.length ≤ sizeLine)) fun i j => .str (i ++ j)
theorem opr_addS : Opr X bt (binaryOp .Add) addSV := .of op_add_str fun x y H Q h => by
  obtain ⟨c, S, a, b, r, of, so, ra, rb, hg, k⟩ := h
  unfold addSV gS at hg
  split at hg
  · split at hg
    · cases hg
      rename_i h1
      cases ra with | d ra => cases rb with | d rb =>
      cases ra
      cases rb
      exact ⟨_, _, rfl, rfl, of_decide_eq_true h1, k H _ (.refl _ _) so (.d (.str _))⟩
    · cases hg
  · cases hg
def addTV : G2 := fun _ a b => match a, b with
  | .d (.tup i), .d (.tup j) => if i.length + j.length ≤ sizeLine then some (.d (.tup (i ++ j))) else none
  | _, _ => none
theorem Reps.nil_of {c : RC} {H : Hp} {ds : List D} {vs : List V} (r : Reps c H ds vs) : vs = [] → ds = [] := fun e => by
  have h := r.length
  rw [e] at h
  exact List.eq_nil_of_length_eq_zero h
theorem opr_addT : Opr X bt (binaryOp .Add) addTV := .of op_catA fun x y H Q h => by
  obtain ⟨c, S, a, b, r, of, so, ra, rb, hg, k⟩ := h
  unfold addTV at hg
  split at hg
  · split at hg
    · cases hg
      rename_i i j h1
      cases ra with | d ra => cases rb with | d rb =>
      cases ra with | tup a1 a2 =>
      cases rb with | tup b1 b2 =>
      rw [← of.K]
      refine ⟨_, _, _, _, rfl, rfl, a1, b1, by rw [← a2.length, ← b2.length]; exact h1, fun e => ?_, fun e1 e2 => ?_, fun e1 e2 p hp => ?_⟩
      · refine k H _ (.refl _ _) so ?_
        rw [a2.nil_of e]
        exact .d (.tup b1 b2)
      · refine k H _ (.refl _ _) so ?_
        rw [b2.nil_of e2, List.append_nil]
        exact .d (.tup a1 a2)
      · exact k _ _ (.fresh hp) (so.fresh hp) (new_tup hp (a2.append b2))
    · cases hg
  · cases hg
def addLV : G2 := fun s a b => match asLst s a, asLst s b with
  | some i, some j => if i.length + j.length ≤ sizeLine then some (.d (.lst (i ++ j))) else none
  | _, _ => none
theorem opr_addL : Opr X bt (binaryOp .Add) addLV := .of op_cat fun x y H Q h => by
  obtain ⟨c, S, a, b, r, of, so, ra, rb, hg, k⟩ := h
  unfold addLV at hg
  split at hg
  · split at hg
    · cases hg
      rename_i i j e1 e2 h1
      obtain ⟨p, xs, rfl, hp, rp⟩ := asLst_ok so ra e1
      obtain ⟨q, ys, rfl, hq, rq⟩ := asLst_ok so rb e2
      exact ⟨_, _, _, _, rfl, rfl, hp, hq, by rw [← rp.length, ← rq.length]; exact h1, fun p hp => k _ _ (.fresh hp) (so.fresh hp) (new_lst so hp (rp.append rq))⟩
    · cases hg
  · cases hg
def addV : G2 := gor (gI (fun _ _ => true) (· + ·)) (gor addSV (gor addTV addLV))
theorem opr_add : Opr X bt (binaryOp .Add) addV := .or (opr_I0 op_add) (.or opr_addS (.or opr_addT opr_addL))
def subV : G2 := gI (fun _ _ => true) (· - ·)
theorem opr_sub : Opr X bt (binaryOp .Sub) subV := opr_I0 op_sub
def mulC (i j : Int) : Bool := decide (i.natAbs.log2 + j.natAbs.log2 < 1000000)
theorem reps_rep {c : RC} {H : Hp} {ds : List D} {vs : List V} (r : Reps c H ds vs) : ∀ n : Nat, Reps c H (List.replicate n ds).flatten (List.replicate n vs).flatten
  | 0 => .nil
  | n + 1 => by
    rw [List.replicate_succ, List.replicate_succ, List.flatten_cons, List.flatten_cons]
    exact r.append (reps_rep r n)
def mulLV : G2 := fun s a b => match asLst s a, b with
  | some l, .d (.int k) => if -(2 ^ 63) ≤ k ∧ k < 2 ^ 63 ∧ l.length * k.toNat ≤ sizeLine then some (.d (.lst (List.replicate k.toNat l).flatten)) else none
  | _, _ => none
theorem opr_mulL : Opr X bt (binaryOp .Mult) mulLV := .of op_rep fun x y H Q h => by
  obtain ⟨c, S, a, b, r, of, so, ra, rb, hg, k⟩ := h
  unfold mulLV at hg
  split at hg
  · split at hg
    · cases hg
      rename_i l n e1 h1
      obtain ⟨p, xs, rfl, hp, rp⟩ := asLst_ok so ra e1
      cases rb with | d rb =>
      cases rb
      exact ⟨_, _, _, rfl, rfl, hp, h1.1, h1.2.1, by rw [← rp.length]; exact h1.2.2, fun p hp => k _ _ (.fresh hp) (so.fresh hp) (new_lst so hp (reps_rep rp _))⟩
    · cases hg
  · cases hg
/-- a text, twice -/
theorem op_twice {X : Cx} : OpR X (binaryOp .Mult) (fun x y H Q => ∃ i, x = .str i ∧ y = .int 2 ∧ i.length ≤ 16000 ∧ Q (.str (i ++ i)) H) := by
  intro pins s σ H x y v u Q I rx ry h
  obtain ⟨i, rfl, rfl, hz, q⟩ := h
  obtain ⟨t, rfl⟩ := rx
  obtain ⟨t', rfl⟩ := ry
  refine PySem.P.mul_str (by decide) (fun _ _ => by
    have : ((2 ^ 63 - 1 : Int) / 2) = 4611686018427387903 := by decide
    rw [this]
    omega) (fun _ _ => decide_eq_false (by
    have z : sizeLine = 16777216 := rfl
    have : (2 : Int).toNat = 2 := rfl
    rw [this]
    omega)) ?_
  rw [if_neg (by decide)]
  have e : ((List.replicate (2 : Int).toNat i.cps).foldl (· ++ ·) #[]) = i.cps ++ i.cps := by
    show (#[] ++ i.cps) ++ i.cps = _
    rw [Array.empty_append]
  split
  · rename_i h0
    have h0 : i.length = 0 := by
      have h1 : ((2 : Int) == 1) = false := rfl
      rw [h1, Bool.false_or, beq_iff_eq] at h0
      exact h0
    have e2 : i ++ i = i := Str.ext' (by
      rw [Str.cps_append]
      have : i.cps = #[] := Array.eq_empty_of_size_eq_zero h0
      rw [this]
      rfl)
    rw [e2] at q
    exact ⟨.str i, H, I, ⟨t, rfl⟩, q⟩
  · have e3 : (⟨(List.replicate (2 : Int).toNat i.cps).foldl (· ++ ·) #[]⟩ : Str) = i ++ i := Str.ext' (by rw [Str.cps_append]; exact e)
    rw [e3]
    refine ⟨?_, .str (i ++ i), H, I.tok _, ⟨_, rfl⟩, q⟩
    have z : sizeLine = 16777216 := rfl
    have l : (i ++ i).length = i.length + i.length := by
      show (i ++ i).cps.size = i.cps.size + i.cps.size
      rw [Str.cps_append, Array.size_append]
    omega
def mulSV : G2 := fun _ a b => match a, b with
  | .d (.str i), .d (.int k) => if k = 2 ∧ i.length ≤ 16000 then some (.d (.str (i ++ i))) else none
  | _, _ => none
theorem opr_mulS : Opr X bt (binaryOp .Mult) mulSV := .of op_twice fun x y H Q h => by
  obtain ⟨c, S, a, b, r, of, so, ra, rb, hg, k⟩ := h
  unfold mulSV at hg
  split at hg
  · split at hg
    · cases hg
      rename_i h1
      obtain ⟨rfl, h2⟩ := h1
      cases ra with | d ra => cases rb with | d rb =>
      cases ra
      cases rb
      exact ⟨_, rfl, rfl, h2, k H _ (.refl _ _) so (.d (.str _))⟩
    · cases hg
  · cases hg
def mulV : G2 := gor (gI mulC (· * ·)) (gor mulSV mulLV)
theorem opr_mul : Opr X bt (binaryOp .Mult) mulV := .or (opr_I op_mulW fun i j h => of_decide_eq_true (p := i.natAbs.log2 + j.natAbs.log2 < 1000000) h) (.or opr_mulS opr_mulL)
def divC (_ j : Int) : Bool := decide (0 < j ∧ j.natAbs.log2 < 9000)
def divV : G2 := gI divC (· / ·)
theorem opr_div : Opr X bt (binaryOp .FloorDiv) divV := opr_I op_fdivW fun i j h => of_decide_eq_true (p := 0 < j ∧ j.natAbs.log2 < 9000) h
def modV : G2 := gI (fun _ j => decide (0 < j)) (· % ·)
theorem opr_mod : Opr X bt (binaryOp .Mod) modV := opr_I op_mod fun i j h => of_decide_eq_true h
theorem opr_lt : Opr X bt (compareOp .Lt) (gIb fun i j => decide (i < j)) := opr_Ib op_lt
theorem opr_le : Opr X bt (compareOp .LtE) (gIb fun i j => decide (i ≤ j)) := opr_Ib op_le
theorem opr_gt : Opr X bt (compareOp .Gt) (gIb fun i j => decide (j < i)) := opr_Ib op_gt
theorem opr_ge : Opr X bt (compareOp .GtE) (gIb fun i j => decide (j ≤ i)) := opr_Ib op_ge
def powC (i j : Int) : Bool := decide (0 ≤ j ∧ (Builtin.Int.intBits i : Int) * j ≤ 2 ^ 27)
def powV : G2 := gI powC fun i j => i ^ j.toNat
theorem opr_pow : Opr X bt (binaryOp .Pow) powV := opr_I (P := fun i j => 0 ≤ j ∧ (Builtin.Int.intBits i : Int) * j ≤ 2 ^ 27) (opI fun i j _ _ _ _ _ hc q => pow_int hc.1 hc.2 q) fun i j h => of_decide_eq_true (p := 0 ≤ j ∧ (Builtin.Int.intBits i : Int) * j ≤ 2 ^ 27) h
/-! ### data -/
end
mutual
def toPy : D → Option PyData
  | .non => some .none
  | .bl b => some (.bool b)
  | .int i => some (.int i)
  | .str x => some (.str x)
  | .tup l => match toPys l with | some l => some (.tuple l) | none => none
  | .lst l => match toPys l with | some l => some (.list l) | none => none
  | .scr l => some (.list (l.map .int))
  | .glo _ => none
  | .bty _ => none
  | .obj _ _ => none
  | .dic _ => none
  | .dit _ => none
def toPys : List D → Option (List PyData)
  | [] => some []
  | d :: ds => match toPy d, toPys ds with
    | some x, some xs => some (x :: xs)
    | _, _ => none
end
theorem dp_ints {K : PySem.W.Frag} {H : Hp} : ∀ l : List Int, DpAll K H (l.map V.int) (l.map .int)
  | [] => .nil
  | i :: l => .cons (.int i) (dp_ints l)
mutual
theorem toPy_ok {c : RC} {H : Hp} : ∀ (d : D) (v : V) (p : PyData), Rep c H d v → toPy d = some p → Dp c.K H v p
  | .non, _, _, r, h => by cases r; cases h; exact .non
  | .bl b, _, _, r, h => by cases r; cases h; exact .bl b
  | .int i, _, _, r, h => by cases r; cases h; exact .int i
  | .str x, _, _, r, h => by cases r; cases h; exact .str x
  | .tup l, _, _, r, h => by
    cases r with | tup h1 h2 =>
    unfold toPy at h
    split at h
    · cases h
      rename_i e
      exact .tup h1 (toPys_ok l _ _ h2 e)
    · cases h
  | .lst l, _, _, r, h => by
    cases r with | lst h1 h2 h3 =>
    unfold toPy at h
    split at h
    · cases h
      rename_i e
      exact .lst (.inl (.of h1)) (toPys_ok l _ _ h3 e)
    · cases h
  | .scr l, _, _, r, h => by
    cases r with | scr h1 =>
    unfold toPy at h
    cases h
    exact .lst h1.sq (dp_ints l)
  | .glo _, _, _, _, h => by unfold toPy at h; cases h
  | .bty _, _, _, _, h => by unfold toPy at h; cases h
  | .obj _ _, _, _, _, h => by unfold toPy at h; cases h
  | .dic _, _, _, _, h => by unfold toPy at h; cases h
  | .dit _, _, _, _, h => by unfold toPy at h; cases h
theorem toPys_ok {c : RC} {H : Hp} : ∀ (d : List D) (v : List V) (p : List PyData), Reps c H d v → toPys d = some p → DpAll c.K H v p
  | [], _, _, r, h => by cases r; cases h; exact .nil
  | d :: ds, _, _, r, h => by
    cases r with | cons r1 r2 =>
    unfold toPys at h
    split at h
    · cases h
      rename_i e1 e2
      exact .cons (toPy_ok d _ _ r1 e1) (toPys_ok ds _ _ r2 e2)
    · cases h
end
def pyOf (s : Sto) : Vl → Option PyData
  | .d x => toPy x
  | .ref n => match s[n]? with
    | some (.lst l) => toPy (.lst l)
    | _ => none
  | .xcp _ => none
theorem pyOf_ok {c : RC} {H : Hp} {s : Sto} {v : Vl} {x : V} {p : PyData} (so : SOk c H s) (r : RepV c H v x) (h : pyOf s v = some p) : Dp c.K H x p := by
  cases r with
  | d r => exact toPy_ok _ _ _ r h
  | xcp _ _ => cases h
  | ref r =>
    unfold pyOf at h
    dsimp only at h
    split at h
    · rename_i e
      obtain ⟨xs, h1, h2⟩ := so.cell _ _ _ e r
      unfold toPy at h
      split at h
      · cases h
        rename_i e2
        exact .lst (.inl (.of h1)) (toPys_ok _ _ _ h2 e2)
      · cases h
    · cases h
def eqV (n : Bool) : G2 := fun s a b => match pyOf s a, pyOf s b with
  | some d, some e => if SeqAt.shaped d = true ∧ SeqAt.shaped e = true then some (.d (.bl (n ^^ PyData.eqv d e))) else none
  | _, _ => none
section
variable {X : Cx} {bt : Bx}
theorem opr_eq (hu : X.A.units + 64 < cLine) : Opr X bt (compareOp .Eq) (eqV false) := .of (op_eqD hu) fun x y H Q h => by
  obtain ⟨c, S, a, b, r, of, so, ra, rb, hg, k⟩ := h
  unfold eqV at hg
  split at hg
  · split at hg
    · cases hg
      rename_i e1 e2 h1
      refine ⟨_, _, of.K ▸ pyOf_ok so ra e1, of.K ▸ pyOf_ok so rb e2, h1.1, h1.2, k H _ (.refl _ _) so ?_⟩
      rw [Bool.false_xor]
      exact .d (.bl _)
    · cases hg
  · cases hg
theorem opr_ne (hu : X.A.units + 64 < cLine) : Opr X bt (compareOp .NotEq) (eqV true) := .of (op_neD hu) fun x y H Q h => by
  obtain ⟨c, S, a, b, r, of, so, ra, rb, hg, k⟩ := h
  unfold eqV at hg
  split at hg
  · split at hg
    · cases hg
      rename_i e1 e2 h1
      refine ⟨_, _, of.K ▸ pyOf_ok so ra e1, of.K ▸ pyOf_ok so rb e2, h1.1, h1.2, k H _ (.refl _ _) so ?_⟩
      rw [Bool.true_xor]
      exact .d (.bl _)
    · cases hg
  · cases hg
/-! ### in -/
def inLV (n : Bool) : G2 := fun s a b => match pyOf s a, pyOf s b with
  | some d, some (.list ds) => if SeqAt.shaped d = true ∧ SeqAt.shaped (.list ds) = true then some (.d (.bl (n ^^ ds.any fun z => PyData.eqv z d))) else none
  | _, _ => none
theorem opr_inL (hu : X.A.units + 65 < cLine) : Opr X bt (compareOp .In) (inLV false) := .of (op_inD hu) fun x y H Q h => by
  obtain ⟨c, S, a, b, r, of, so, ra, rb, hg, k⟩ := h
  unfold inLV at hg
  split at hg
  · split at hg
    · cases hg
      rename_i e1 e2 h1
      refine ⟨_, _, of.K ▸ pyOf_ok so ra e1, of.K ▸ pyOf_ok so rb e2, h1.1, h1.2, k H _ (.refl _ _) so ?_⟩
      rw [Bool.false_xor]
      exact .d (.bl _)
    · cases hg
  · cases hg
theorem opr_notInL (hu : X.A.units + 65 < cLine) : Opr X bt (compareOp .NotIn) (inLV true) := .of (op_notInD hu) fun x y H Q h => by
  obtain ⟨c, S, a, b, r, of, so, ra, rb, hg, k⟩ := h
  unfold inLV at hg
  split at hg
  · split at hg
    · cases hg
      rename_i e1 e2 h1
      refine ⟨_, _, of.K ▸ pyOf_ok so ra e1, of.K ▸ pyOf_ok so rb e2, h1.1, h1.2, k H _ (.refl _ _) so ?_⟩
      rw [Bool.true_xor]
      exact .d (.bl _)
    · cases hg
  · cases hg
/-- in a tuple of data -/
def inTV (n : Bool) : G2 := fun s a b => match pyOf s a, pyOf s b with
  | some d, some (.tuple ds) => if SeqAt.shaped d = true ∧ SeqAt.shaped (.tuple ds) = true then some (.d (.bl (n ^^ ds.any fun z => PyData.eqv z d))) else none
  | _, _ => none
theorem shaped_plain {d : PyData} (h : SeqAt.shaped d = true) : d.plain = true := PyData.plain_of_canLay0 d (SeqAt.canLay_of_shaped h)
theorem opr_inT (hu : X.A.units + 65 < cLine) : Opr X bt (compareOp .In) (inTV false) := by
  intro pins s σ H x y v u Q I rx ry h
  obtain ⟨c, S, a, b, r, of, so, ra, rb, hg, k⟩ := h
  unfold inTV at hg
  split at hg
  · split at hg
    · cases hg
      rename_i e1 e2 h1
      obtain ⟨as, r1⟩ := Dp.reads I _ x v (of.K ▸ pyOf_ok so ra e1) rx
      obtain ⟨bs, r2⟩ := Dp.reads I _ y u (of.K ▸ pyOf_ok so rb e2) ry
      refine SeqAt.in_tuple_data r2 r1 (by simpa [PyData.plain] using shaped_plain h1.2) (shaped_plain h1.1) ?_ ⟨.bl _, H, I, rfl, k H _ (.refl _ _) so ?_⟩
      · have d1 := SeqAt.depth_of_shaped h1.1
        have d2 := Nat.min_le_right (PyData.depthAll ‹List PyData›) (PyData.depth ‹PyData›)
        omega
      · rw [Bool.false_xor]
        exact .d (.bl _)
    · cases hg
  · cases hg
theorem opr_notInT (hu : X.A.units + 65 < cLine) : Opr X bt (compareOp .NotIn) (inTV true) := by
  intro pins s σ H x y v u Q I rx ry h
  obtain ⟨c, S, a, b, r, of, so, ra, rb, hg, k⟩ := h
  unfold inTV at hg
  split at hg
  · split at hg
    · cases hg
      rename_i e1 e2 h1
      obtain ⟨as, r1⟩ := Dp.reads I _ x v (of.K ▸ pyOf_ok so ra e1) rx
      obtain ⟨bs, r2⟩ := Dp.reads I _ y u (of.K ▸ pyOf_ok so rb e2) ry
      refine SeqAt.notIn_tuple_data r2 r1 (by simpa [PyData.plain] using shaped_plain h1.2) (shaped_plain h1.1) ?_ ⟨.bl _, H, I, rfl, k H _ (.refl _ _) so ?_⟩
      · have d1 := SeqAt.depth_of_shaped h1.1
        have d2 := Nat.min_le_right (PyData.depthAll ‹List PyData›) (PyData.depth ‹PyData›)
        omega
      · rw [Bool.true_xor]
        exact .d (.bl _)
    · cases hg
  · cases hg
/-- one sign in a text -/
def inSV (n : Bool) : G2 := fun _ a b => match a, b with
  | .d (.str x), .d (.str z) => match x.cps.toList with
    | [c] => some (.d (.bl (n ^^ decide (c ∈ z.cps.toList))))
    | _ => none
  | _, _ => none
theorem str_of {x : Str} {l : List Nat} (h : x.cps.toList = l) : x = ⟨l.toArray⟩ := by
  obtain ⟨a⟩ := x
  dsimp only at h
  rw [← h]
theorem opr_inS : Opr X bt (compareOp .In) (inSV false) := .of op_in_sign fun x y H Q h => by
  obtain ⟨c, S, a, b, r, of, so, ra, rb, hg, k⟩ := h
  unfold inSV at hg
  split at hg
  · split at hg
    · cases hg
      rename_i e
      cases ra with | d ra => cases rb with | d rb =>
      cases ra
      cases rb
      refine ⟨_, _, by rw [str_of e], rfl, k H _ (.refl _ _) so ?_⟩
      rw [Bool.false_xor]
      exact .d (.bl _)
    · cases hg
  · cases hg
theorem opr_notInS : Opr X bt (compareOp .NotIn) (inSV true) := .of op_notIn_sign fun x y H Q h => by
  obtain ⟨c, S, a, b, r, of, so, ra, rb, hg, k⟩ := h
  unfold inSV at hg
  split at hg
  · split at hg
    · cases hg
      rename_i e
      cases ra with | d ra => cases rb with | d rb =>
      cases ra
      cases rb
      refine ⟨_, _, by rw [str_of e], rfl, k H _ (.refl _ _) so ?_⟩
      rw [Bool.true_xor]
      exact .d (.bl _)
    · cases hg
  · cases hg
def inV (n : Bool) : G2 := gor (inSV n) (gor (inLV n) (inTV n))
theorem opr_in (hu : X.A.units + 65 < cLine) : Opr X bt (compareOp .In) (inV false) := .or opr_inS (.or (opr_inL hu) (opr_inT hu))
theorem opr_notIn (hu : X.A.units + 65 < cLine) : Opr X bt (compareOp .NotIn) (inV true) := .or opr_notInS (.or (opr_notInL hu) (opr_notInT hu))
/-- is None -/
def isNb : Vl → Bool
  | .d .non => true
  | _ => false
def isNV (n : Bool) : G2 := fun _ a b => match b with
  | .d .non => some (.d (.bl (n ^^ isNb a)))
  | _ => none
theorem isNb_ok {c : RC} {H : Hp} {a : Vl} {x : V} (r : RepV c H a x) : decide (x = .non) = isNb a := by
  cases r with
  | ref r => exact decide_eq_false fun z => nomatch z
  | xcp _ _ => exact decide_eq_false fun z => nomatch z
  | d r => cases r <;> first | rfl | exact decide_eq_false fun z => nomatch z
theorem opr_is : Opr X bt (compareOp .Is) (isNV false) := .of op_isN fun x y H Q h => by
  obtain ⟨c, S, a, b, r, of, so, ra, rb, hg, k⟩ := h
  unfold isNV at hg
  split at hg
  · cases hg
    cases rb with | d rb =>
    cases rb
    refine ⟨rfl, k H _ (.refl _ _) so ?_⟩
    rw [isNb_ok ra, Bool.false_xor]
    exact .d (.bl _)
  · cases hg
theorem opr_isNot : Opr X bt (compareOp .IsNot) (isNV true) := .of op_notN fun x y H Q h => by
  obtain ⟨c, S, a, b, r, of, so, ra, rb, hg, k⟩ := h
  unfold isNV at hg
  split at hg
  · cases hg
    cases rb with | d rb =>
    cases rb
    refine ⟨rfl, k H _ (.refl _ _) so ?_⟩
    rw [isNb_ok ra, Bool.true_xor]
    exact .d (.bl _)
  · cases hg
end
end Sm
set_option Elab.async false
set_option linter.all false
set_option maxRecDepth 100000
set_option maxHeartbeats 4000000
namespace Sm
open PySem PySem.Spec PyProof.Rows L2

section
variable {X : Cx} {bt : Bx} {W : WX} {N : List Str} {sc : Scope}
/-! ## arguments -/
def aNil : En → Sto → Out (List Vl) := fun _ s => .ok [] s
def aCons (f : En → Sto → Out Vl) (g : En → Sto → Out (List Vl)) : En → Sto → Out (List Vl) := fun en s => (f en s).bind fun x s1 => (g en s1).bind fun xs s2 => .ok (x :: xs) s2
theorem sa_nil : SA X bt W [] aNil := PA.weak pa_nil fun σ H Q => by
  rintro ⟨c, en, s, of, so, eo, po⟩
  exact po c H [] (.refl _ _) so .nil
theorem sa_cons {e : Expr} {es : List Expr} {f : En → Sto → Out Vl} {g : En → Sto → Out (List Vl)} (h : SE X bt W e f) (k : SA X bt W es g) (hs : starEach (e :: es) X.env = (false, eval e X.env) :: starEach es X.env := by rfl) : SA X bt W (e :: es) (aCons f g) :=
  PA.weak (pa_cons h k hs) fun σ H Q => by
    rintro ⟨c, en, s, of, so, eo, po⟩
    refine ⟨c, en, s, of, so, eo, po.bind fun a s1 c1 H1 v e1 so1 r1 po1 => ?_⟩
    refine ⟨c1, en, s1, e1.of of, so1, eo.mono e1, po1.bind fun b s2 c2 H2 w e2 so2 r2 po2 => ?_⟩
    exact po2 c2 H2 _ (.refl _ _) so2 (.cons (r1.mono e2) r2)
/-- values that never change -/
def frz : List Vl → Option (List D)
  | [] => some []
  | .d x :: r => match frz r with
    | some l => some (x :: l)
    | none => none
  | .ref _ :: _ => none
  | .xcp _ :: _ => none
theorem frz_ok {c : RC} {H : Hp} : ∀ {as : List Vl} {vs : List V} {l : List D}, RepVs c H as vs → frz as = some l → Reps c H l vs
  | _, _, _, .nil, e => by cases e; exact .nil
  | .d x :: r, _, _, .cons h t, e => by
    cases h with | d h =>
    unfold frz at e
    split at e
    · cases e
      exact .cons h (frz_ok t (by assumption))
    · cases e
  | .ref _ :: _, _, _, .cons _ _, e => by unfold frz at e; cases e
  | .xcp _ :: _, _, _, .cons _ _, e => by unfold frz at e; cases e
/-! ## tuples, lists -/
def eTup (fa : En → Sto → Out (List Vl)) : En → Sto → Out Vl := fun en s => (fa en s).bind fun as s1 => match frz as with
  | some l => if l.length ≤ sizeLine then .ok (.d (.tup l)) s1 else .bad
  | none => .bad
theorem se_tup {es : List Expr} {fa : En → Sto → Out (List Vl)} {x1} {p : Pos} (h : SA X bt W es fa) : SE X bt W (.Tuple es x1 p) (eTup fa) := PE.weak (pe_tup h) fun σ H Q => by
  rintro ⟨c, en, s, of, so, eo, po⟩
  refine ⟨c, en, s, of, so, eo, po.bind fun as s1 c1 H1 vs e1 so1 r1 po1 => ?_⟩
  split at po1
  · split at po1
    · rename_i l e hl
      have r := frz_ok r1 e
      refine ⟨by rw [← r.length]; exact hl, fun p hp => ?_⟩
      exact po1 c1 _ _ (.fresh hp) (so1.fresh hp) (new_tup hp r)
    · exact po1.elim
  · exact po1.elim
def eLst (fa : En → Sto → Out (List Vl)) : En → Sto → Out Vl := fun en s => (fa en s).bind fun as s1 => match frz as with
  | some l => if l.length ≤ sizeLine then .ok (.d (.lst l)) s1 else .bad
  | none => .bad
theorem se_lst {es : List Expr} {fa : En → Sto → Out (List Vl)} {p : Pos} (h : SA X bt W es fa) : SE X bt W (.List es p) (eLst fa) := PE.weak (pe_lst h) fun σ H Q => by
  rintro ⟨c, en, s, of, so, eo, po⟩
  refine ⟨c, en, s, of, so, eo, po.bind fun as s1 c1 H1 vs e1 so1 r1 po1 => ?_⟩
  split at po1
  · split at po1
    · rename_i l e hl
      have r := frz_ok r1 e
      refine ⟨by rw [← r.length]; exact hl, fun p hp => ?_⟩
      exact po1 c1 _ _ (.fresh hp) (so1.fresh hp) (new_lst so1 hp r)
    · exact po1.elim
  · exact po1.elim
/-- a new list that will change -/
theorem push_ext {c : RC} {H : Hp} {p : Addr} {o : HO} (hp : H p = none) : Ext c H (c.up [p]) (upd H p o) :=
  ⟨⟨[p], rfl, fun a ha => by rw [List.mem_singleton.mp ha]; exact hp⟩, upd_live, fun a x e _ _ => by rw [upd_ne (ne_of_none e hp)]; exact e, fun a x e => by rw [upd_ne (ne_of_none e hp)]; exact e, fun a x u e => by rw [upd_ne (ne_of_none e hp)]; exact e⟩
theorem SOk.push {c : RC} {H : Hp} {S : Sto} {p : Addr} {o : HO} {x : Cell} (so : SOk c H S) (hp : H p = none) (k : CellOk (c.up [p]) (upd H p o) p x) : SOk (c.up [p]) (upd H p o) (S ++ [x]) := by
  refine ⟨?_, ?_, fun a ha => upd_live _ (so.lvb a ha), fun n y a e1 e2 => ?_⟩
  · show (c.ph ++ [p]).length = _
    rw [List.length_append, List.length_append, so.len]
    rfl
  · show (c.ph ++ [p]).Nodup
    have nin : p ∉ c.ph := fun z => so.live p z hp
    have nd := so.nd
    rw [List.nodup_append]
    refine ⟨nd, by simp, fun a ha b hb e => ?_⟩
    rw [List.mem_singleton.mp hb] at e
    rw [e] at ha
    exact nin ha
  · have e2' : (c.ph ++ [p])[n]? = some a := e2
    by_cases hn : n < S.length
    · rw [List.getElem?_append_left hn] at e1
      rw [List.getElem?_append_left (by rw [so.len]; exact hn)] at e2'
      exact (so.cell n y a e1 e2').kept (push_ext hp) fun o e nt => by rw [upd_ne (ne_of_none e hp)]; exact e
    · have hn' : n = S.length := by
        have := (List.getElem?_eq_some_iff.mp e1).1
        rw [List.length_append, List.length_singleton] at this
        omega
      subst hn'
      rw [List.getElem?_append_right (Nat.le_refl _), Nat.sub_self] at e1
      rw [List.getElem?_append_right (by rw [so.len]; exact Nat.le_refl _), so.len, Nat.sub_self] at e2'
      cases e1
      cases e2'
      exact k
theorem ref_new {c : RC} {H : Hp} {S : Sto} {p : Addr} (so : SOk c H S) : (c.up [p]).ph[S.length]? = some p := by
  show (c.ph ++ [p])[S.length]? = some p
  rw [List.getElem?_append_right (by rw [so.len]; exact Nat.le_refl _), so.len, Nat.sub_self]
  rfl
def eLstM (fa : En → Sto → Out (List Vl)) : En → Sto → Out Vl := fun en s => (fa en s).bind fun as s1 => match frz as with
  | some l => if l.length ≤ sizeLine then .ok (.ref s1.length) (s1 ++ [.lst l]) else .bad
  | none => .bad
theorem se_lstM {es : List Expr} {fa : En → Sto → Out (List Vl)} {p : Pos} (h : SA X bt W es fa) : SE X bt W (.List es p) (eLstM fa) := PE.weak (pe_lst h) fun σ H Q => by
  rintro ⟨c, en, s, of, so, eo, po⟩
  refine ⟨c, en, s, of, so, eo, po.bind fun as s1 c1 H1 vs e1 so1 r1 po1 => ?_⟩
  split at po1
  · split at po1
    · rename_i l e hl
      have r := frz_ok r1 e
      refine ⟨by rw [← r.length]; exact hl, fun p hp => ?_⟩
      exact po1 _ _ _ (push_ext hp) (so1.push hp ⟨_, upd_same, Reps.mono (push_ext hp) _ _ r⟩) (.ref (ref_new so1))
    · exact po1.elim
  · exact po1.elim

/-! ## subscripts -/
def ixV : G2 := fun s a b => match b with
  | .d (.int i) => match a with
    | .d (.str z) => if z.length ≤ sizeLine then match atI z.cps.toList i with
        | some c => some (.d (.str ⟨#[c]⟩))
        | none => none
      else none
    | a => match asSeq s a with
      | some l => match atI l i with
        | some d => some (.d d)
        | none => none
      | none => none
  | _ => none
theorem Reps.atI {c : RC} {H : Hp} {ds : List D} {vs : List V} {i : Int} {d : D} (r : Reps c H ds vs) (h : L2.atI ds i = some d) : ∃ v, L2.atI vs i = some v ∧ Rep c H d v := by
  unfold L2.atI at h ⊢
  rw [r.length] at h
  cases e : ixN vs.length i with
  | none => rw [e] at h; cases h
  | some j => rw [e] at h; exact r.get h
theorem ixr_seq : IxR X (rOp X.K X.mg bt ixV) := fun value slice pins s σ H x y v u Q I rx ry h hs => by
  refine ix_seq value slice pins s σ H x y v u Q I rx ry ?_ hs
  obtain ⟨c, S, a, b, r, of, so, ra, rb, hg, k⟩ := h
  unfold ixV at hg
  split at hg
  · cases rb with | d rb =>
    cases rb
    split at hg
    · cases ra with | d ra =>
      cases ra
      split at hg
      · split at hg
        · cases hg
          exact .inr (.inr ⟨_, _, _, rfl, rfl, by assumption, by assumption, k H _ (.refl _ _) so (.d (.str _))⟩)
        · cases hg
      · cases hg
    · split at hg
      · split at hg
        · cases hg
          obtain ⟨p, xs, rfl, rp, q⟩ := asSeq_ok so ra ‹asSeq S _ = some _›
          obtain ⟨w, e3, rw'⟩ := rp.atI ‹atI _ _ = some _›
          rw [of.K] at q
          rcases q with q | q
          · exact .inl ⟨_, _, _, _, rfl, rfl, q, e3, k H _ (.refl _ _) so (.d rw')⟩
          · exact .inr (.inl ⟨_, _, _, _, rfl, rfl, q, e3, k H _ (.refl _ _) so (.d rw')⟩)
        · cases hg
      · cases hg
  · cases hg
theorem se_ix {a b : Expr} {fa fb : En → Sto → Out Vl} {p : Pos} (ha : SE X bt W a fa) (hb : SE X bt W b fb) (hs : PlainIx b := by intro _ _; rfl) : SE X bt W (.Subscript a b p) (eBin ixV fa fb) :=
  PE.weak (pe_ix ixr_seq ha hb hs) fun _ _ _ => bin_tG
/-! ## slices -/
def oNone : En → Sto → Out (Option Int) := fun _ s => .ok none s
def oSome (f : En → Sto → Out Vl) : En → Sto → Out (Option Int) := fun en s => (f en s).bind fun x s1 => match x with
  | .d (.int i) => .ok (some i) s1
  | _ => .bad
abbrev relO : RC → Hp → Option Int → Option Int → Prop := fun _ _ a b => a = b
def SPt (X : Cx) (bt : Bx) (W : WX) (e : Option Expr) (f : En → Sto → Out (Option Int)) : Prop := PO X e (tG relO X.K X.mg bt f W)
theorem PO.weak {e : Option Expr} {t t' : TO} (h : PO X e t) (w : ∀ σ H Q, t' σ H Q → t σ H Q) : PO X e t' := ⟨fun pins s σ H Q I q => h.run pins s σ H Q I (w σ H Q q)⟩
theorem so_none : SPt X bt W none oNone := PO.weak po_none fun σ H Q => by
  rintro ⟨c, en, s, of, so, eo, po⟩
  exact po c H none (.refl _ _) so rfl
theorem so_some {e : Expr} {f : En → Sto → Out Vl} (h : SE X bt W e f) : SPt X bt W (some e) (oSome f) := PO.weak (po_some h) fun σ H Q => by
  rintro ⟨c, en, s, of, so, eo, po⟩
  refine ⟨c, en, s, of, so, eo, po.bind fun a s1 c1 H1 v e1 so1 r1 po1 => ?_⟩
  split at po1
  · cases r1 with | d r1 =>
    cases r1
    exact ⟨_, rfl, po1 c1 H1 _ (.refl _ _) so1 rfl⟩
  · exact po1.elim
def cutD (xs : List D) (lo hi : Option Int) : List D := (xs.drop (HT.sIx xs.length 0 lo)).take (HT.sIx xs.length xs.length hi - HT.sIx xs.length 0 lo)
theorem Reps.cut {c : RC} {H : Hp} {ds : List D} {vs : List V} (lo hi : Option Int) (r : Reps c H ds vs) : Reps c H (cutD ds lo hi) (cutV vs lo hi) := by
  unfold cutD cutV
  rw [r.length]
  exact (r.drop _).take _
def slV (s : Sto) (a : Vl) (lo hi : Option Int) : Option D := match a with
  | .d (.str z) => if z.length ≤ sizeLine then some (.str (cutS z lo hi)) else none
  | .d (.tup l) => some (.tup (cutD l lo hi))
  | .d (.lst l) => some (.lst (cutD l lo hi))
  | .d (.scr l) => some (.lst (cutD (l.map .int) lo hi))
  | .ref n => match s[n]? with
    | some (.lst l) => some (.lst (cutD l lo hi))
    | _ => none
  | _ => none
def rSl (K : PySem.W.Frag) (mg : Str → Option Value) (bt : Bx) : V → Option Int → Option Int → Hp → VK → Prop := fun x lo hi H Q =>
  ∃ c s a r, Of K mg bt c ∧ SOk c H s ∧ RepV c H a x ∧ slV s a lo hi = some r ∧ ∀ H' z, Ext c H c H' → SOk c H' s → RepV c H' (.d r) z → Q z H'
theorem whole_cut {c : RC} {H : Hp} {ds : List D} {vs : List V} {lo hi : Option Int} (r : Reps c H ds vs) (h : HT.sIx vs.length 0 lo = 0 ∧ HT.sIx vs.length vs.length hi = vs.length) : cutD ds lo hi = ds := by
  unfold cutD
  rw [r.length, h.1, h.2, List.drop_zero, Nat.sub_zero, ← r.length, List.take_length]
theorem slr_all : SlR X (rSl X.K X.mg bt) := fun pins s σ H x v vl vu lo hi sl Q I rx hs pl pu h => by
  obtain ⟨c, S, a, r, of, so, ra, hg, k⟩ := h
  unfold slV at hg
  split at hg
  · split at hg
    · cases hg
      cases ra with | d ra =>
      cases ra
      exact sl_str pins s σ H _ v vl vu lo hi sl Q I rx hs pl pu ⟨_, rfl, by assumption, k H _ (.refl _ _) so (.d (.str _))⟩
    · cases hg
  · cases hg
    cases ra with | d ra =>
    cases ra with | tup h1 h2 =>
    refine sl_tupA pins s σ H _ v vl vu lo hi sl Q I rx hs pl pu ⟨_, _, rfl, of.K ▸ h1, fun w => ?_, fun w p hp => ?_⟩
    · refine k H _ (.refl _ _) so ?_
      rw [whole_cut h2 w]
      exact .d (.tup h1 h2)
    · exact k _ _ (.fresh hp) (so.fresh hp) (new_tup hp (h2.cut lo hi))
  · cases hg
    cases ra with | d ra =>
    cases ra with | lst h1 h2 h3 =>
    exact sl_list pins s σ H _ v vl vu lo hi sl Q I rx hs pl pu ⟨_, _, rfl, .inl (.of h1), fun p hp => k _ _ (.fresh hp) (so.fresh hp) (new_lst so hp (h3.cut lo hi))⟩
  · cases hg
    cases ra with | d ra =>
    cases ra with | scr h1 =>
    exact sl_list pins s σ H _ v vl vu lo hi sl Q I rx hs pl pu ⟨_, _, rfl, of.K ▸ h1.sq, fun p hp => k _ _ (.fresh hp) (so.fresh hp) (new_lst so hp ((reps_ints _).cut lo hi))⟩
  · split at hg
    · cases hg
      rename_i e
      cases ra with | ref ra =>
      obtain ⟨xs, h1, h2⟩ := so.cell _ _ _ e ra
      exact sl_list pins s σ H _ v vl vu lo hi sl Q I rx hs pl pu ⟨_, _, rfl, .inl (.of h1), fun p hp => k _ _ (.fresh hp) (so.fresh hp) (new_lst so hp (h2.cut lo hi))⟩
    · cases hg
  · cases hg
def eSl (f : En → Sto → Out Vl) (g h : En → Sto → Out (Option Int)) : En → Sto → Out Vl := fun en s => (f en s).bind fun x s1 => (g en s1).bind fun lo s2 => (h en s2).bind fun hi s3 => match slV s3 x lo hi with
  | some r => .ok (.d r) s3
  | none => .bad
theorem se_sl {e : Expr} {lo hi : Option Expr} {f : En → Sto → Out Vl} {g h : En → Sto → Out (Option Int)} {p p2 : Pos} (he : SE X bt W e f) (hl : SPt X bt W lo g) (hh : SPt X bt W hi h) : SE X bt W (.Subscript e (.Slice lo hi none p2) p) (eSl f g h) :=
  PE.weak (pe_slice slr_all he hl hh) fun σ H Q => by
    rintro ⟨c, en, s, of, so, eo, po⟩
    refine ⟨c, en, s, of, so, eo, po.bind fun a s1 c1 H1 v e1 so1 r1 po1 => ?_⟩
    refine ⟨c1, en, s1, e1.of of, so1, eo.mono e1, po1.bind fun lo s2 c2 H2 w e2 so2 r2 po2 => ?_⟩
    subst r2
    refine ⟨c2, en, s2, e2.of (e1.of of), so2, (eo.mono e1).mono e2, po2.bind fun hi s3 c3 H3 w e3 so3 r3 po3 => ?_⟩
    subst r3
    split at po3
    · rename_i r hr
      exact ⟨c3, s3, a, r, e3.of (e2.of (e1.of of)), so3, (r1.mono e2).mono e3, hr, fun H' z e so' rz => po3 c3 H' z e so' rz⟩
    · exact po3.elim

/-! ## calls of what is built in -/
abbrev GC := Sto → List Vl → Option Vl
def rCall (K : PySem.W.Frag) (mg : Str → Option Value) (bt : Bx) (g : GC) : List V → Hp → VK → Prop := fun xs H Q =>
  ∃ c s as r, Of K mg bt c ∧ SOk c H s ∧ RepVs c H as xs ∧ g s as = some r ∧ ∀ H' z, Ext c H c H' → SOk c H' s → RepV c H' r z → Q z H'
abbrev Clr (X : Cx) (bt : Bx) (f : Value) (g : GC) : Prop := CallR X f (rCall X.K X.mg bt g)
def eCB (g : GC) (fa : En → Sto → Out (List Vl)) : En → Sto → Out Vl := fun en s => (fa en s).bind fun as s1 => ofO (g s1 as) s1
theorem cb_tG {g : GC} {fa : En → Sto → Out (List Vl)} {σ : L2.St} {H : Hp} {Q : VK} (h : tG RepV X.K X.mg bt (eCB g fa) W σ H Q) : tG RepVs X.K X.mg bt fa W σ H fun xs H1 => rCall X.K X.mg bt g xs H1 Q := by
  obtain ⟨c, en, s, of, so, eo, po⟩ := h
  refine ⟨c, en, s, of, so, eo, po.bind fun as s1 c1 H1 vs e1 so1 r1 po1 => ?_⟩
  obtain ⟨r, hr, q⟩ := po1.ofO
  exact ⟨c1, s1, as, r, e1.of of, so1, r1, hr, fun H' z e so' rz => q c1 H' z e so' rz⟩
theorem se_cb {id : String} {g : GC} {x : Str} {e : Expr} {es : List Expr} {fa : En → Sto → Out (List Vl)} {p pos : Pos} (h : Here X N sc) (o : Clr X bt (.builtin id) g) (hm : X.mg x = none) (hv : bootBuiltins x = some (.builtin id)) (ha : SA X bt W (e :: es) fa)
    (hg : gloB sc x = true := by kernel_rfl) (he : starEach (e :: es) X.env = (false, eval e X.env) :: starEach es X.env := by rfl) (hpl : (backTo pos (starEach es X.env)).any (·.1) = false := by rfl) : SE X bt W (.Call (.Name x p) (e :: es) [] pos) (eCB g fa) := by
  obtain ⟨g1, g2, g3⟩ := gloB_ok h.sc hg
  exact PE.weak (pe_callB o g1 hm hv ha g3 g2 he hpl) fun _ _ _ => cb_tG
theorem se_ct {T : String} {g : GC} {x : Str} {e : Expr} {es : List Expr} {fa : En → Sto → Out (List Vl)} {p pos : Pos} (h : Here X N sc) (o : Clr X bt (.type T) g) (hm : X.mg x = none) (hv : bootBuiltins x = some (.type T)) (ha : SA X bt W (e :: es) fa)
    (hg : gloB sc x = true := by kernel_rfl) (he : starEach (e :: es) X.env = (false, eval e X.env) :: starEach es X.env := by rfl) (hpl : (backTo pos (starEach es X.env)).any (·.1) = false := by rfl) : SE X bt W (.Call (.Name x p) (e :: es) [] pos) (eCB g fa) := by
  obtain ⟨g1, g2, g3⟩ := gloB_ok h.sc hg
  exact PE.weak (pe_callTy o g1 hm hv ha g3 g2 he hpl) fun _ _ _ => cb_tG
theorem Clr.of {f : Value} {g : GC} {r : List V → Hp → VK → Prop} (o : CallR X f r) (w : ∀ xs H Q, rCall X.K X.mg bt g xs H Q → r xs H Q) : Clr X bt f g := fun pins s σ H xs us Q I rs h => o pins s σ H xs us Q I rs (w xs H Q h)
def gorC (g h : GC) : GC := fun s as => match g s as with
  | some r => some r
  | none => h s as
theorem Clr.or {f : Value} {g h : GC} (p : Clr X bt f g) (q : Clr X bt f h) : Clr X bt f (gorC g h) := by
  intro pins s σ H xs us Q I rs hh
  obtain ⟨c, S, as, r, of, so, ra, hg, k⟩ := hh
  unfold gorC at hg
  split at hg
  · rename_i r' e
    cases hg
    exact p pins s σ H xs us Q I rs ⟨c, S, as, _, of, so, ra, e, k⟩
  · exact q pins s σ H xs us Q I rs ⟨c, S, as, r, of, so, ra, hg, k⟩
/-- one argument -/
theorem RepVs.one {c : RC} {H : Hp} {a : Vl} {vs : List V} (h : RepVs c H [a] vs) : ∃ x, vs = [x] ∧ RepV c H a x := by
  cases h with | cons h t =>
  cases t
  exact ⟨_, rfl, h⟩
theorem RepVs.two {c : RC} {H : Hp} {a b : Vl} {vs : List V} (h : RepVs c H [a, b] vs) : ∃ x y, vs = [x, y] ∧ RepV c H a x ∧ RepV c H b y := by
  cases h with | cons h t =>
  cases t with | cons h2 t =>
  cases t
  exact ⟨_, _, rfl, h, h2⟩
def lenV : GC := fun s as => match as with
  | [.d (.str z)] => if z.length ≤ sizeLine then some (.d (.int z.length)) else none
  | [a] => match asSeq s a with
    | some l => some (.d (.int l.length))
    | none => none
  | _ => none
theorem clr_len : Clr X bt (.builtin "len") lenV := .of (call_len_seq.or call_len_str) fun xs H Q h => by
  obtain ⟨c, S, as, r, of, so, ra, hg, k⟩ := h
  unfold lenV at hg
  split at hg
  · split at hg
    · cases hg
      obtain ⟨x, rfl, rx⟩ := ra.one
      cases rx with | d rx =>
      cases rx
      exact .inr ⟨_, rfl, by assumption, k H _ (.refl _ _) so (.d (.int _))⟩
    · cases hg
  · split at hg
    · cases hg
      rename_i e
      obtain ⟨x, rfl, rx⟩ := ra.one
      obtain ⟨p, ys, rfl, rp, q⟩ := asSeq_ok so rx e
      rw [of.K] at q
      exact .inl ⟨_, _, rfl, q, by rw [← rp.length]; exact k H _ (.refl _ _) so (.d (.int _))⟩
    · cases hg
  · cases hg
def absV' : GC := fun _ as => match as with
  | [.d (.int i)] => some (.d (.int (if i < 0 then -i else i)))
  | _ => none
theorem clr_abs : Clr X bt (.builtin "abs") absV' := .of call_abs fun xs H Q h => by
  obtain ⟨c, S, as, r, of, so, ra, hg, k⟩ := h
  unfold absV' at hg
  split at hg
  · cases hg
    obtain ⟨x, rfl, rx⟩ := ra.one
    cases rx with | d rx =>
    cases rx
    exact ⟨_, rfl, k H _ (.refl _ _) so (.d (.int _))⟩
  · cases hg
def maxV : GC := fun _ as => match as with
  | [.d (.int i), .d (.int j)] => some (.d (.int (if j > i then j else i)))
  | _ => none
theorem clr_max (hc : X.calm = true) : Clr X bt (.builtin "max") maxV := .of (call_max2 hc) fun xs H Q h => by
  obtain ⟨c, S, as, r, of, so, ra, hg, k⟩ := h
  unfold maxV at hg
  split at hg
  · cases hg
    obtain ⟨x, y, rfl, rx, ry⟩ := ra.two
    cases rx with | d rx => cases ry with | d ry =>
    cases rx
    cases ry
    exact ⟨_, _, rfl, k H _ (.refl _ _) so (.d (.int _))⟩
  · cases hg
def minV : GC := fun _ as => match as with
  | [.d (.int i), .d (.int j)] => some (.d (.int (if j < i then j else i)))
  | _ => none
theorem clr_min (hc : X.calm = true) : Clr X bt (.builtin "min") minV := .of (call_min2 hc) fun xs H Q h => by
  obtain ⟨c, S, as, r, of, so, ra, hg, k⟩ := h
  unfold minV at hg
  split at hg
  · cases hg
    obtain ⟨x, y, rfl, rx, ry⟩ := ra.two
    cases rx with | d rx => cases ry with | d ry =>
    cases rx
    cases ry
    exact ⟨_, _, rfl, k H _ (.refl _ _) so (.d (.int _))⟩
  · cases hg
def intV : GC := fun _ as => match as with
  | [.d (.int i)] => some (.d (.int i))
  | [.d (.bl b)] => some (.d (.int (if b then 1 else 0)))
  | [.d (.str z)] => match intText? z with
    | some n => if z.length ≤ 640 then some (.d (.int n)) else none
    | none => none
  | _ => none
theorem clr_int : Clr X bt (.type "int") intV := .of (call_int1.or call_int_str) fun xs H Q h => by
  obtain ⟨c, S, as, r, of, so, ra, hg, k⟩ := h
  unfold intV at hg
  split at hg
  · cases hg
    obtain ⟨x, rfl, rx⟩ := ra.one
    cases rx with | d rx =>
    cases rx
    exact .inl (.inl ⟨_, rfl, k H _ (.refl _ _) so (.d (.int _))⟩)
  · cases hg
    obtain ⟨x, rfl, rx⟩ := ra.one
    cases rx with | d rx =>
    cases rx
    exact .inl (.inr ⟨_, rfl, k H _ (.refl _ _) so (.d (.int _))⟩)
  · split at hg
    · split at hg
      · cases hg
        obtain ⟨x, rfl, rx⟩ := ra.one
        cases rx with | d rx =>
        cases rx
        exact .inr ⟨_, _, rfl, by assumption, by assumption, k H _ (.refl _ _) so (.d (.int _))⟩
      · cases hg
    · cases hg
  · cases hg
def strV : GC := fun _ as => match as with
  | [.d (.int i)] => if i.natAbs.log2 < 1920 then some (.d (.str (toString i))) else none
  | _ => none
theorem clr_str : Clr X bt (.type "str") strV := .of call_str_int fun xs H Q h => by
  obtain ⟨c, S, as, r, of, so, ra, hg, k⟩ := h
  unfold strV at hg
  split at hg
  · split at hg
    · cases hg
      obtain ⟨x, rfl, rx⟩ := ra.one
      cases rx with | d rx =>
      cases rx
      exact ⟨_, rfl, by assumption, k H _ (.refl _ _) so (.d (.str _))⟩
    · cases hg
  · cases hg
def tupV : GC := fun s as => match as with
  | [a] => match asSeq s a with
    | some l => some (.d (.tup l))
    | none => none
  | _ => none
theorem clr_tup : Clr X bt (.type "tuple") tupV := .of call_tuple_of fun xs H Q h => by
  obtain ⟨c, S, as, r, of, so, ra, hg, k⟩ := h
  unfold tupV at hg
  split at hg
  · split at hg
    · cases hg
      rename_i e
      obtain ⟨x, rfl, rx⟩ := ra.one
      obtain ⟨p, ys, rfl, rp, q⟩ := asSeq_ok so rx e
      refine ⟨p, ys, rfl, ?_⟩
      rcases q with q | q
      · exact .inl ⟨of.K ▸ q, fun p hp => k _ _ (.fresh hp) (so.fresh hp) (new_tup hp rp)⟩
      · exact .inr ⟨of.K ▸ q, k H _ (.refl _ _) so (.d (.tup q rp))⟩
    · cases hg
  · cases hg
def listV : GC := fun s as => match as with
  | [a] => match asSeq s a with
    | some l => some (.d (.lst l))
    | none => none
  | _ => none
theorem clr_list : Clr X bt (.type "list") listV := .of call_list_of fun xs H Q h => by
  obtain ⟨c, S, as, r, of, so, ra, hg, k⟩ := h
  unfold listV at hg
  split at hg
  · split at hg
    · cases hg
      rename_i e
      obtain ⟨x, rfl, rx⟩ := ra.one
      obtain ⟨p, ys, rfl, rp, q⟩ := asSeq_ok so rx e
      rw [of.K] at q
      exact ⟨p, ys, rfl, q, fun p hp => k _ _ (.fresh hp) (so.fresh hp) (new_lst so hp rp)⟩
    · cases hg
  · cases hg
/-- truth values -/
def blOf : D → Option Bool
  | .bl b => some b
  | _ => none
def bls : List D → Option (List Bool)
  | [] => some []
  | d :: r => match blOf d, bls r with
    | some b, some l => some (b :: l)
    | _, _ => none
theorem bls_ok {c : RC} {H : Hp} : ∀ {l : List D} {bs : List Bool} {xs : List V}, Reps c H l xs → bls l = some bs → xs = bs.map V.bl
  | [], _, _, h, e => by cases h; cases e; rfl
  | d :: r, _, _, h, e => by
    cases h with | cons h t =>
    unfold bls at e
    split at e
    · cases e
      rename_i h1 h2
      cases d <;> first | (cases h1; done) | skip
      cases h1
      cases h
      rw [List.map_cons, bls_ok t h2]
    · cases e
def anyV (q : Bool) : GC := fun s as => match as with
  | [a] => match asLst s a with
    | some l => match bls l with
      | some bs => some (.d (.bl (if q = true then bs.any id else bs.all id)))
      | none => none
    | none => none
  | _ => none
theorem clr_any (hc : X.calm = true) : Clr X bt (.builtin "any") (anyV true) := .of (cr_any hc) fun xs H Q h => by
  obtain ⟨c, S, as, r, of, so, ra, hg, k⟩ := h
  unfold anyV at hg
  split at hg
  · split at hg
    · split at hg
      · cases hg
        rename_i e _ _ e2
        obtain ⟨x, rfl, rx⟩ := ra.one
        obtain ⟨p, ys, rfl, hp, rp⟩ := asLst_ok so rx e
        rw [bls_ok rp e2] at hp
        rw [if_pos rfl] at k
        exact ⟨_, _, rfl, .inl (.of hp), k H _ (.refl _ _) so (.d (.bl _))⟩
      · cases hg
    · cases hg
  · cases hg
theorem clr_all (hc : X.calm = true) : Clr X bt (.builtin "all") (anyV false) := .of (cr_all hc) fun xs H Q h => by
  obtain ⟨c, S, as, r, of, so, ra, hg, k⟩ := h
  unfold anyV at hg
  split at hg
  · split at hg
    · split at hg
      · cases hg
        rename_i e _ _ e2
        obtain ⟨x, rfl, rx⟩ := ra.one
        obtain ⟨p, ys, rfl, hp, rp⟩ := asLst_ok so rx e
        rw [bls_ok rp e2] at hp
        rw [if_neg Bool.false_ne_true] at k
        exact ⟨_, _, rfl, .inl (.of hp), k H _ (.refl _ _) so (.d (.bl _))⟩
      · cases hg
    · cases hg
  · cases hg
end
end Sm
set_option Elab.async false
set_option linter.all false
set_option maxRecDepth 100000
set_option maxHeartbeats 4000000
namespace Sm
open PySem PySem.Spec PyProof.Rows L2

section
variable {X : Cx} {bt : Bx} {W : WX} {N : List Str} {sc : Scope}
/-! ## statements -/
abbrev MS := En → Sto → SO
abbrev ME := En → Sto → Out Vl
abbrev MT := En → Sto → Out Bool
abbrev MA := En → Sto → Out (List Vl)
def sNx : MS := fun en s => .nx en s
def sSeq (f g : MS) : MS := fun en s => (f en s).then g
theorem ss_nil : SSs X bt W [] sNx := PSs.weak pss_nil fun E σ H => by
  rintro ⟨c, en, s, of, so, eo, po⟩
  exact po c H σ (.refl _ _) so eo
theorem ss_one {st : Stmt} {f : MS} (h : SS X bt W st f) : SSs X bt W [st] f := pss_one h
theorem PostS.seq {c : RC} {H : Hp} {E : Ends} {o : SO} {g : MS} {R : L2.St → Hp → Prop} (po : PostS c W H E (o.then g)) (k : ∀ en s c' H' σ', Ext c H c' H' → SOk c' H' s → EnOk c' H' en σ' → PostS c' W H' E (g en s) → R σ' H') : PostS c W H { E with nx := R } o := by
  cases o with
  | nx en s => exact fun c' H' σ' e so eo => k en s c' H' σ' e so eo (PostS.shift (show PostS c W H E (g en s) from po) e)
  | bk en s => exact po
  | ct en s => exact po
  | rt x s => exact po
  | exc k l en s => exact po
  | bad => exact po
theorem ss_cons {st : Stmt} {rest : List Stmt} {f g : MS} (h1 : SS X bt W st f) (h2 : SSs X bt W rest g) : SSs X bt W (st :: rest) (sSeq f g) := PSs.weak (pss_cons h1 h2) fun E σ H => by
  rintro ⟨c, en, s, of, so, eo, po⟩
  exact ⟨c, en, s, of, so, eo, PostS.seq po fun en' s' c' H' σ' e so' eo' po' => ⟨c', en', s', e.of of, so', eo', po'⟩⟩
theorem ss_pass {p} : SS X bt W (.Pass p) sNx := PS.weak ps_pass fun E σ H => by
  rintro ⟨c, en, s, of, so, eo, po⟩
  exact po c H σ (.refl _ _) so eo
theorem ss_doc {x j p p'} : SS X bt W (.Expr (.Constant (.str x) j p) p') sNx := PS.weak ps_doc fun E σ H => by
  rintro ⟨c, en, s, of, so, eo, po⟩
  exact po c H σ (.refl _ _) so eo
def sBk : MS := fun en s => .bk en s
def sCt : MS := fun en s => .ct en s
theorem ss_break {p} : SS X bt W (.Break p) sBk := PS.weak ps_break fun E σ H => by
  rintro ⟨c, en, s, of, so, eo, po⟩
  exact po c H σ (.refl _ _) so eo
theorem ss_continue {p} : SS X bt W (.Continue p) sCt := PS.weak ps_continue fun E σ H => by
  rintro ⟨c, en, s, of, so, eo, po⟩
  exact po c H σ (.refl _ _) so eo
def sDrop (f : ME) : MS := fun en s => (f en s).then en fun _ s => .nx en s
theorem ss_expr {e : Expr} {f : ME} {p : Pos} (h : SE X bt W e f) (hs : swapsWith e none p.line X.env = pure false := by rfl) : SS X bt W (.Expr e p) (sDrop f) := PS.weak (ps_expr h hs) fun E σ H => by
  rintro ⟨c, en, s, of, so, eo, po⟩
  exact ⟨c, en, s, of, so, eo, po.then eo fun x s' c' H' v e so' eo' r po' => po' c' H' σ (.refl _ _) so' eo'⟩
def sRet (f : ME) : MS := fun en s => (f en s).then en fun x s => .rt x s
theorem ss_ret {e : Expr} {f : ME} {p : Pos} (h : SE X bt W e f) : SS X bt W (.Return (some e) p) (sRet f) := PS.weak (ps_ret h) fun E σ H => by
  rintro ⟨c, en, s, of, so, eo, po⟩
  exact ⟨c, en, s, of, so, eo, po.then eo fun x s' c' H' v e so' eo' r po' => po' c' H' v (.refl _ _) so' r⟩
def sRetN : MS := fun _ s => .rt (.d .non) s
theorem ss_retN {p : Pos} : SS X bt W (.Return none p) sRetN := PS.weak ps_retN fun E σ H => by
  rintro ⟨c, en, s, of, so, eo, po⟩
  exact po c H _ (.refl _ _) so (.d .non)
def sIf (t : MT) (f g : MS) : MS := fun en s => (t en s).then en fun b s => if b = true then f en s else g en s
theorem ss_if {t : Expr} {a b : List Stmt} {ft : MT} {f g : MS} {p : Pos} (h : ST X bt W t ft) (ha : SSs X bt W a f) (hb : SSs X bt W b g) : SS X bt W (.If t a b p) (sIf ft f g) := PS.weak (ps_if h ha hb) fun E σ H => by
  rintro ⟨c, en, s, of, so, eo, po⟩
  refine ⟨c, en, s, of, so, eo, po.then eo fun x s' c' H' v e so' eo' r po' => ?_⟩
  subst r
  cases x with
  | true => rw [if_pos rfl] at po' ⊢; exact ⟨c', en, s', e.of of, so', eo', po'⟩
  | false => rw [if_neg Bool.false_ne_true] at po' ⊢; exact ⟨c', en, s', e.of of, so', eo', po'⟩
def sSet (i : Nat) (f : ME) : MS := fun en s => (f en s).then en fun x s => .nx (en.set i (some x)) s
theorem ss_set (h : Here X N sc) (nd : X.N.Nodup) (i : Nat) {x : Str} {e : Expr} {f : ME} {p p' : Pos} (fn : X.fn x = true ∨ lclB sc x = true) (he : SE X bt W e f) (hi : N[i]? = some x := by rfl) (hl : locB sc x = true := by kernel_rfl)
    (hs : swapsWith e (some (.Name x p')) p.line X.env = pure false := by rfl) : SS X bt W (.Assign [.Name x p'] e p) (sSet i f) :=
  PS.weak (ps_set (i := i) nd (by rw [h.N]; exact hi) (by rw [h.sc]; exact locB_ok hl) he hs (fn.imp id fun z => by rw [h.sc]; exact lclB_ok z)) fun E σ H => by
    rintro ⟨c, en, s, of, so, eo, po⟩
    exact ⟨c, en, s, of, so, eo, po.then eo fun x s' c' H' v e so' eo' r po' => po' c' H' _ (.refl _ _) so' (eo'.set r)⟩
/-! ### targets -/
abbrev GT := Vl → Sto → En → Option En
abbrev GTs := List Vl → Sto → En → Option En
/-- other slots are as they were -/
def But (vs : List Nat) (σ σ' : L2.St) : Prop := σ'.length = σ.length ∧ ∀ i, i ∉ vs → σ'[i]? = σ[i]?
theorem But.refl {vs : List Nat} {σ : L2.St} : But vs σ σ := ⟨rfl, fun _ _ => rfl⟩
theorem But.trans {vs ws : List Nat} {σ σ1 σ2 : L2.St} (a : But vs σ σ1) (b : But ws σ1 σ2) : But (vs ++ ws) σ σ2 := ⟨b.1.trans a.1, fun i hi => (b.2 i fun z => hi (List.mem_append_right _ z)).trans (a.2 i fun z => hi (List.mem_append_left _ z))⟩
theorem But.set {σ : L2.St} {i : Nat} {v : Option V} : But [i] σ (σ.set i v) := ⟨List.length_set, fun j hj => List.getElem?_set_ne fun z => hj (by rw [z]; exact List.mem_singleton_self _)⟩
def tGt (K : PySem.W.Frag) (mg : Str → Option Value) (bt : Bx) (vs : List Nat) (g : GT) : TG := fun v σ H Q => ∃ c en s x en', Of K mg bt c ∧ SOk c H s ∧ EnOk c H en σ ∧ RepV c H x v ∧ g x s en = some en' ∧ ∀ σ', EnOk c H en' σ' → But vs σ σ' → Q σ' H
def tGts (K : PySem.W.Frag) (mg : Str → Option Value) (bt : Bx) (vs : List Nat) (g : GTs) : TGs := fun v σ H Q => ∃ c en s x en', Of K mg bt c ∧ SOk c H s ∧ EnOk c H en σ ∧ RepVs c H x v ∧ g x s en = some en' ∧ ∀ σ', EnOk c H en' σ' → But vs σ σ' → Q σ' H
def STg (X : Cx) (bt : Bx) (e : Expr) (vs : List Nat) (g : GT) : Prop := PG X e (tGt X.K X.mg bt vs g)
def STgs (X : Cx) (bt : Bx) (e : List Expr) (vs : List Nat) (g : GTs) : Prop := PGs X e (tGts X.K X.mg bt vs g)
theorem PG.weak {e : Expr} {t t' : TG} (h : PG X e t) (w : ∀ v σ H Q, t' v σ H Q → t v σ H Q) : PG X e t' := ⟨fun pins s σ H v u Q I r q => h.run pins s σ H v u Q I r (w v σ H Q q)⟩
theorem PGs.weak {e : List Expr} {t t' : TGs} (h : PGs X e t) (w : ∀ v σ H Q, t' v σ H Q → t v σ H Q) : PGs X e t' := ⟨fun pins s σ H v u Q I r q => h.run pins s σ H v u Q I r (w v σ H Q q)⟩
def gtName (i : Nat) : GT := fun x _ en => some (en.set i (some x))
def gtNil : GTs := fun xs _ en => match xs with
  | [] => some en
  | _ :: _ => none
def gtCons (g : GT) (gs : GTs) : GTs := fun xs s en => match xs with
  | [] => none
  | x :: xs => match g x s en with
    | some en' => gs xs s en'
    | none => none
def gtTup (n : Nat) (gs : GTs) : GT := fun x s en => match x with
  | .d (.tup l) => if l.length = n then gs (l.map .d) s en else none
  | _ => none
theorem stg_name (h : Here X N sc) (nd : X.N.Nodup) (i : Nat) {x : Str} {p : Pos} (fn : X.fn x = true ∨ lclB sc x = true) (hi : N[i]? = some x := by rfl) (hl : locB sc x = true := by kernel_rfl) : STg X bt (.Name x p) [i] (gtName i) :=
  PG.weak (pg_name (i := i) nd (by rw [h.N]; exact hi) (by rw [h.sc]; exact locB_ok hl) (fn.imp id fun z => by rw [h.sc]; exact lclB_ok z)) fun v σ H Q => by
    rintro ⟨c, en, s, x, en', of, so, eo, r, hg, q⟩
    cases hg
    exact q _ (eo.set r) .set
theorem stgs_nil : STgs X bt [] [] gtNil := PGs.weak pgs_nil fun v σ H Q => by
  rintro ⟨c, en, s, x, en', of, so, eo, r, hg, q⟩
  unfold gtNil at hg
  split at hg
  · cases hg
    cases r
    exact ⟨rfl, q _ eo .refl⟩
  · cases hg
theorem stgs_cons {e : Expr} {es : List Expr} {vs ws : List Nat} {g : GT} {gs : GTs} (h : STg X bt e vs g) (k : STgs X bt es ws gs) (hs : (assignEach (e :: es) X.env).map (·.2) = assign e X.env :: (assignEach es X.env).map (·.2) := by rfl) : STgs X bt (e :: es) (vs ++ ws) (gtCons g gs) :=
  PGs.weak (pgs_cons h k hs) fun v σ H Q => by
    rintro ⟨c, en, s, x, en', of, so, eo, r, hg, q⟩
    unfold gtCons at hg
    split at hg
    · cases hg
    · split at hg
      · rename_i e1
        cases r with | cons r1 r2 =>
        exact ⟨_, _, rfl, c, en, s, _, _, of, so, eo, r1, e1, fun σ' eo' b => ⟨c, _, s, _, _, of, so, eo', r2, hg, fun σ2 eo2 b2 => q σ2 eo2 (b.trans b2)⟩⟩
      · cases hg
theorem reps_vs {c : RC} {H : Hp} : ∀ {l : List D} {vs : List V}, Reps c H l vs → RepVs c H (l.map .d) vs
  | [], _, h => by cases h; exact .nil
  | d :: r, _, h => by cases h with | cons h t => exact .cons (.d h) (reps_vs t)
theorem stg_tup {es : List Expr} {vs : List Nat} {gs : GTs} {n k : Nat} {p : Pos} (hc : X.calm = true) (h : STgs X bt es vs gs) (hn : (assignEach es X.env).length = n := by rfl) (hst : (assignEach es X.env).findIdx? (·.1) = none := by rfl) : STg X bt (.Tuple es k p) vs (gtTup n gs) :=
  PG.weak (pg_tup hc h hn hst) fun v σ H Q => by
    rintro ⟨c, en, s, x, en', of, so, eo, r, hg, q⟩
    unfold gtTup at hg
    split at hg
    · split at hg
      · cases r with | d r =>
        cases r with | tup h1 h2 =>
        exact ⟨_, _, rfl, of.K ▸ h1, by rw [← h2.length]; assumption, c, en, s, _, _, of, so, eo, reps_vs h2, hg, q⟩
      · cases hg
    · cases hg
def sAsg (g : GT) (f : ME) : MS := fun en s => (f en s).then en fun x s => match g x s en with
  | some en' => .nx en' s
  | none => .bad
theorem ss_asg {tg e : Expr} {vs : List Nat} {g : GT} {f : ME} {p : Pos} (he : SE X bt W e f) (hg : STg X bt tg vs g) (hs : swapsWithSole [tg] e p.line X.env = pure false := by rfl) (hw : swappedStores [tg] e X.env = pure none := by rfl)
    (h1 : (assignEach [tg] X.env).map (·.2) = [assign tg X.env] := by rfl) : SS X bt W (.Assign [tg] e p) (sAsg g f) := PS.weak (ps_asg he hg hs hw h1) fun E σ H => by
  rintro ⟨c, en, s, of, so, eo, po⟩
  refine ⟨c, en, s, of, so, eo, po.then eo fun x s' c' H' v e so' eo' r po' => ?_⟩
  split at po'
  · exact ⟨c', en, s', x, _, e.of of, so', eo', r, by assumption, fun σ' eo2 _ => po' c' H' σ' (.refl _ _) so' eo2⟩
  · exact po'.elim
/-- a, b = x, y -/
def sPar2 (i j : Nat) (fa : MA) : MS := fun en s => (fa en s).then en fun xs s => match xs with
  | [a, b] => .nx ((en.set i (some a)).set j (some b)) s
  | _ => .bad
theorem ss_par2 (h : Here X N sc) (hc : X.calm = true) (nd : X.N.Nodup) (i j : Nat) {x y : Str} {a b : Expr} {fa : MA} {px py pt p : Pos} {kt k2 pt2} (ha : SA X bt W [a, b] fa)
    (hw : swappedStores [.Tuple [.Name x px, .Name y py] kt pt] (.Tuple [a, b] k2 pt2) X.env = pure (some [x, y]))
    (hi : N[i]? = some x := by rfl) (hj : N[j]? = some y := by rfl) (hij : i ≠ j := by decide) (hx : lclB sc x = true := by kernel_rfl) (hy : lclB sc y = true := by kernel_rfl)
    (hs : swapsWithSole [.Tuple [.Name x px, .Name y py] kt pt] (.Tuple [a, b] k2 pt2) p.line X.env = pure false := by rfl) :
    SS X bt W (.Assign [.Tuple [.Name x px, .Name y py] kt pt] (.Tuple [a, b] k2 pt2) p) (sPar2 i j fa) :=
  PS.weak (ps_par hc nd (by rw [h.N]; exact hi) (by rw [h.N]; exact hj) hij (by rw [h.sc]; exact lclB_ok hx) (by rw [h.sc]; exact lclB_ok hy) ha hw hs) fun E σ H => by
    rintro ⟨c, en, s, of, so, eo, po⟩
    refine ⟨c, en, s, of, so, eo, po.then eo fun x s' c' H' v e so' eo' r po' => ?_⟩
    split at po'
    · obtain ⟨v, w, rfl, rv, rw'⟩ := r.two
      exact ⟨v, w, rfl, po' c' H' _ (.refl _ _) so' ((eo'.set rv).set rw')⟩
    · exact po'.elim
/-! ### what changes -/
theorem getElem?_set_inv {α : Type} {l : List α} {n m : Nat} {x y : α} (h : (l.set n x)[m]? = some y) : (m = n ∧ y = x) ∨ (m ≠ n ∧ l[m]? = some y) := by
  by_cases e : n = m
  · subst e
    rw [List.getElem?_set] at h
    split at h
    · split at h
      · cases h; exact .inl ⟨rfl, rfl⟩
      · cases h
    · rename_i z; exact absurd rfl z
  · rw [List.getElem?_set_ne e] at h
    exact .inr ⟨fun z => e z.symm, h⟩
theorem put_ext {c : RC} {H : Hp} {n : Nat} {a : Addr} {o o' : HO} (hp : c.ph[n]? = some a) (ho : H a = some o) (h1 : ∀ xs, o ≠ .tup xs) (h2 : ∀ p u, o ≠ .frz p u) : Ext c H c (upd H a o') := by
  have am : a ∈ c.ph := List.mem_of_getElem? hp
  refine ⟨⟨[], c.up_nil.symm, fun _ z => nomatch z⟩, upd_live, fun b x e nb _ => ?_, fun b xs e => ?_, fun b x u e => ?_⟩
  · rw [upd_ne (fun z => nb (by rw [z]; exact am))]; exact e
  · rw [upd_ne (fun z => by rw [z, ho] at e; cases e; exact h1 _ rfl)]; exact e
  · rw [upd_ne (fun z => by rw [z, ho] at e; cases e; exact h2 _ _ rfl)]; exact e
theorem SOk.put {c : RC} {H : Hp} {S : Sto} {n : Nat} {a : Addr} {o' : HO} {x : Cell} (so : SOk c H S) (hp : c.ph[n]? = some a) (e : Ext c H c (upd H a o')) (k : CellOk c (upd H a o') a x) : SOk c (upd H a o') (S.set n x) := by
  refine ⟨by rw [List.length_set]; exact so.len, so.nd, fun b hb => upd_live _ (so.lvb b hb), fun m y b e1 e2 => ?_⟩
  rcases getElem?_set_inv e1 with ⟨rfl, rfl⟩ | ⟨hm, e1⟩
  · rw [hp] at e2
    cases e2
    exact k
  · refine (so.cell m y b e1 e2).kept e fun o eo nt => ?_
    have hb : b ≠ a := fun z => hm (by
      subst z
      exact (List.getElem?_inj (List.getElem?_eq_some_iff.mp e2).1 so.nd).mp (e2.trans hp.symm))
    rw [upd_ne hb]
    exact eo
theorem reps_set {c : RC} {H : Hp} {d : D} {v : V} (r : Rep c H d v) : ∀ {ds : List D} {vs : List V} (j : Nat), Reps c H ds vs → Reps c H (ds.set j d) (vs.set j v)
  | [], _, _, h => by cases h; exact .nil
  | e :: es, _, 0, h => by cases h with | cons h t => exact .cons r t
  | e :: es, _, j + 1, h => by cases h with | cons h t => exact .cons h (reps_set r j t)
def putV (o i v : Vl) (s : Sto) : Option Sto := match o, i, v with
  | .ref n, .d (.int k), .d d => match s[n]? with
    | some (.lst l) => match ixN l.length k with
      | some j => some (s.set n (.lst (l.set j d)))
      | none => none
    | _ => none
  | _, _, _ => none
def sSub (fe fo fi : ME) : MS := fun en s => (fe en s).then en fun v s1 => (fo en s1).then en fun o s2 => (fi en s2).then en fun i s3 => match putV o i v s3 with
  | some s4 => .nx en s4
  | none => .bad
theorem ss_sub {e o i : Expr} {fe fo fi : ME} {p p' : Pos} (he : SE X bt W e fe) (ho : SE X bt W o fo) (hi : SE X bt W i fi) (hs : swapsWithSole [.Subscript o i p'] e p.line X.env = pure false := by rfl) (hw : swappedStores [.Subscript o i p'] e X.env = pure none := by rfl)
    (h1 : (assignEach [.Subscript o i p'] X.env).map (·.2) = [assign (.Subscript o i p') X.env] := by rfl)
    (ha : ∀ v, assign (.Subscript o i p') X.env v = (do
      let ov ← holding [v] (eval o X.env)
      let iv ← holding [v, ov] (eval i X.env)
      standAt p'
      holding [v, ov, iv] (setItem ov iv v)
      release [v, ov, iv] []) := by intro _; rfl) : SS X bt W (.Assign [.Subscript o i p'] e p) (sSub fe fo fi) := PS.weak (ps_asg he (pg_sub ho hi set_list ha) hs hw h1) fun E σ H => by
  rintro ⟨c, en, s, of, so, eo, po⟩
  refine ⟨c, en, s, of, so, eo, po.then eo fun x s1 c1 H1 v e1 so1 eo1 r1 po1 => ?_⟩
  refine ⟨c1, en, s1, e1.of of, so1, eo1, po1.then eo1 fun y s2 c2 H2 w e2 so2 eo2 r2 po2 => ?_⟩
  refine ⟨c2, en, s2, e2.of (e1.of of), so2, eo2, po2.then eo2 fun z s3 c3 H3 u e3 so3 eo3 r3 po3 => ?_⟩
  split at po3
  · rename_i s4 hp
    unfold putV at hp
    split at hp
    · split at hp
      · split at hp
        · cases hp
          rename_i n k d _ l hl _ j hj
          have r1' := (r1.mono e2).mono e3
          have r2' := r2.mono e3
          cases r3 with | d r3 =>
          cases r3
          cases r2' with | ref r2' =>
          cases r1' with | d r1' =>
          obtain ⟨xs, g1, g2⟩ := so3.cell _ _ _ hl r2'
          have ext : Ext c3 H3 c3 (upd H3 _ (.lst (xs.set j v))) := put_ext r2' g1 (fun _ z => nomatch z) (fun _ _ z => nomatch z)
          refine ⟨_, xs, k, j, rfl, rfl, g1, by rw [← g2.length]; exact hj, ?_⟩
          exact po3 c3 _ σ ext (so3.put r2' ext ⟨_, upd_same, Reps.mono ext _ _ (reps_set r1' j g2)⟩) (eo3.mono ext)
        · cases hp
      · cases hp
    · cases hp
  · exact po3.elim
end
end Sm
set_option Elab.async false
set_option linter.all false
set_option maxRecDepth 100000
set_option maxHeartbeats 4000000
namespace Sm
open PySem PySem.Spec PyProof.Rows L2

section
variable {X : Cx} {bt : Bx} {W : WX} {N : List Str} {sc : Scope}
/-! ## methods of a list that changes -/
def isCl (s : Sto) : Vl → Bool
  | .ref n => match s[n]? with
    | some (.lst _) => true
    | _ => false
  | _ => false
def appV (o : Vl) (as : List Vl) (s : Sto) : Option Sto := match o, as with
  | .ref n, [.d d] => match s[n]? with
    | some (.lst l) => if l.length < sizeLine then some (s.set n (.lst (l ++ [d]))) else none
    | _ => none
  | _, _ => none
def eApp (fo : ME) (fa : MA) : ME := fun en s => (fo en s).bind fun o s1 => if isCl s1 o = true then (fa en s1).bind fun as s2 => match appV o as s2 with
  | some s3 => .ok (.d .non) s3
  | none => .bad
  else .bad
theorem se_app {o e : Expr} {fo : ME} {fa : MA} {ap p : Pos} (ho : SE X bt W o fo) (ha : SA X bt W [e] fa) (hb : attributeBase o "append" X.env (eval o X.env) = eval o X.env := by rfl)
    (hfew : ((backTo p (starEach [e] X.env)).all (fun x => !x.1) && (backToKw p (keywordEach [] X.env)).all (fun x => x.1.isSome)
      && decide (([e] : List Expr).length + ([] : List Keyword).length + (if ([] : List Keyword).isEmpty then 0 else 1) < 30)) = true := by rfl)
    (hline : (ap.endLine == p.line) = true := by rfl) (hs : starEach [e] X.env = (false, eval e X.env) :: starEach [] X.env := by rfl) (hpl : (backTo p (starEach [] X.env)).any (·.1) = false := by rfl) :
    SE X bt W (.Call (.Attribute o "append" ap) [e] [] p) (eApp fo fa) :=
  PE.weak (pe_bm PySem.F.plainAttrs_list PySem.F.slot_list_append PySem.F.type_list_append mt_append ho ha hb hfew hline hs hpl) fun σ H Q => by
    rintro ⟨c, en, s, of, so, eo, po⟩
    refine ⟨c, en, s, of, so, eo, po.bind fun x s1 c1 H1 v e1 so1 r1 po1 => ?_⟩
    split at po1
    · rename_i hcl
      refine ⟨?_, c1, en, s1, e1.of of, so1, eo.mono e1, po1.bind fun as s2 c2 H2 w e2 so2 r2 po2 => ?_⟩
      · unfold isCl at hcl
        split at hcl
        · split at hcl
          · rename_i hl
            cases r1 with | ref r1 =>
            obtain ⟨xs, g1, g2⟩ := so1.cell _ _ _ hl r1
            exact .inl ⟨rfl, xs, .inl (.of g1)⟩
          · cases hcl
        · cases hcl
      · split at po2
        · rename_i hp
          unfold appV at hp
          split at hp
          · split at hp
            · split at hp
              · cases hp
                rename_i hl hz
                cases r1.mono e2 with | ref r1' =>
                obtain ⟨y, rfl, ry⟩ := r2.one
                cases ry with | d ry =>
                obtain ⟨xs, g1, g2⟩ := so2.cell _ _ _ hl r1'
                have ext : Ext c2 H2 c2 (upd H2 _ (.lst (xs ++ [y]))) := put_ext r1' g1 (fun _ z => nomatch z) (fun _ _ z => nomatch z)
                refine ⟨_, xs, y, rfl, rfl, g1, by rw [← g2.length]; exact hz, ?_⟩
                exact po2 c2 _ _ ext (so2.put r1' ext ⟨_, upd_same, Reps.mono ext _ _ (g2.append (.cons ry .nil))⟩) (.d .non)
              · cases hp
            · cases hp
          · cases hp
        · exact po2.elim
    · exact po1.elim

/-! ## while -/
def whGo (t : MT) (body : MS) : Nat → MS
  | 0, _, _ => .bad
  | n + 1, en, s => (t en s).then en fun b s => if b = true then match body en s with
      | .nx en' s' => whGo t body n en' s'
      | .ct en' s' => whGo t body n en' s'
      | .bk en' s' => .nx en' s'
      | o => o
    else .nx en s
def sWh (fuel : En → Sto → Nat) (t : MT) (body : MS) : MS := fun en s => whGo t body (fuel en s) en s
theorem ss_while (fuel : En → Sto → Nat) {t : Expr} {body : List Stmt} {ft : MT} {fb : MS} {p : Pos} (pas : PassesOwn (model X.prog X.w) X.A X.env X.xe) (h : ST X bt W t ft) (hb : SSs X bt W body fb) : SS X bt W (.While t body [] p) (sWh fuel ft fb) :=
  PS.weak (ps_while pas h hb) fun E σ H => by
    rintro ⟨c, en, s, of, so, eo, po⟩
    refine ⟨fun m σ H => ∃ c en s, Of X.K X.mg bt c ∧ SOk c H s ∧ EnOk c H en σ ∧ PostS c W H E (whGo ft fb m en s), ⟨fuel en s, c, en, s, of, so, eo, po⟩, ?_⟩
    rintro m σ H ⟨c, en, s, of, so, eo, po⟩
    cases m with
    | zero => exact po.elim
    | succ n =>
      unfold whGo at po
      refine ⟨c, en, s, of, so, eo, po.then eo fun b s1 c1 H1 v e1 so1 eo1 r1 po1 => ?_⟩
      subst r1
      cases b with
      | false =>
        rw [if_neg Bool.false_ne_true] at po1 ⊢
        exact po1 c1 H1 σ (.refl _ _) so1 eo1
      | true =>
        rw [if_pos rfl] at po1 ⊢
        refine ⟨fun σ' H' => ∃ c en s, Of X.K X.mg bt c ∧ SOk c H' s ∧ EnOk c H' en σ' ∧ PostS c W H' E (whGo ft fb n en s), fun σ' H' q => ⟨n, Nat.lt_succ_self n, q⟩, c1, en, s1, e1.of of, so1, eo1, ?_⟩
        cases hfb : fb en s1 with
        | nx en' s' => rw [hfb] at po1; exact fun c' H' σ' e so' eo' => ⟨c', en', s', e.of (e1.of of), so', eo', PostS.shift po1 e⟩
        | ct en' s' => rw [hfb] at po1; exact fun c' H' σ' e so' eo' => ⟨c', en', s', e.of (e1.of of), so', eo', PostS.shift po1 e⟩
        | bk en' s' => rw [hfb] at po1; exact po1
        | rt x s' => rw [hfb] at po1; exact po1
        | exc k l en' s' => rw [hfb] at po1; exact po1
        | bad => rw [hfb] at po1; exact po1

/-! ## what is walked -/
inductive IVr where
  | one (v : V) | tup (l : List V)
def IVr.rep (c : RC) (H : Hp) : D → IVr → Prop
  | d, .one v => Rep c H d v
  | .tup l, .tup vs => Reps c H l vs
  | _, .tup _ => False
inductive RepI (c : RC) (H : Hp) : List D → List IVr → Prop
  | nil : RepI c H [] []
  | cons {d : D} {v : IVr} {ds : List D} {vs : List IVr} : v.rep c H d → RepI c H ds vs → RepI c H (d :: ds) (v :: vs)
theorem IVr.rep.kp {c c' : RC} {H H' : Hp} (e : Kpx c H c' H') {d : D} {v : IVr} (h : v.rep c H d) : v.rep c' H' d := by
  cases v with
  | one v => exact Rep.kp e _ _ h
  | tup l =>
    cases d <;> first | exact h.elim | skip
    exact Reps.kp e _ _ h
theorem RepI.kp {c c' : RC} {H H' : Hp} (e : Kpx c H c' H') : ∀ {ds : List D} {vs : List IVr}, RepI c H ds vs → RepI c' H' ds vs
  | _, _, .nil => .nil
  | _, _, .cons h t => .cons (h.kp e) (RepI.kp e t)
theorem RepI.of {c : RC} {H : Hp} : ∀ {ds : List D} {vs : List V}, Reps c H ds vs → RepI c H ds (vs.map .one)
  | [], _, h => by cases h; exact .nil
  | d :: ds, _, h => by cases h with | cons h t => exact .cons h (RepI.of t)
theorem RepI.length {c : RC} {H : Hp} : ∀ {ds : List D} {vs : List IVr}, RepI c H ds vs → ds.length = vs.length
  | _, _, .nil => rfl
  | _, _, .cons h t => by rw [List.length_cons, List.length_cons, RepI.length t]
theorem RepI.get {c : RC} {H : Hp} : ∀ {ds : List D} {vs : List IVr} {i : Nat} {d : D}, RepI c H ds vs → ds[i]? = some d → ∃ v, vs[i]? = some v ∧ v.rep c H d
  | _, _, i, _, .nil, e => by simp at e
  | _, _, 0, _, .cons h t, e => by cases e; exact ⟨_, rfl, h⟩
  | _, _, i + 1, _, .cons h t, e => RepI.get (i := i) t (by simpa using e)
/-- the heap keeps what the iterator looks at -/
structure Kp1 (c : RC) (H H' : Hp) : Prop where
  same : ∀ a o, H a = some o → a ∉ c.ph → (∀ ps, o ≠ .tbl ps) → H' a = some o
  tups : ∀ a xs, H a = some (.tup xs) → H' a = some (.tup xs)
  frzs : ∀ a o u, H a = some (.frz o u) → H' a = some (.frz o u)
theorem Ext.kp1 {c c' : RC} {H H' : Hp} (e : Ext c H c' H') : Kp1 c H H' := ⟨e.same, e.tups, e.frzs⟩
def yields (H : Hp) (x : V) (H' : Hp) : IVr → Prop
  | .one v => x = v ∧ H' = H
  | .tup l => ∃ p, x = .ref p ∧ H p = none ∧ H' = upd H p (.tup l)
/-- J walks through these -/
def ItOk (J : It) (vs : List IVr) (c : RC) (H : Hp) : Prop := ∀ H', Kp1 c H H' → ∀ i : Nat,
  (∀ v, vs[i]? = some v → J.go i H' ∧ ∀ x H'', J.yld i H' x H'' → yields H' x H'' v) ∧ (vs[i]? = none → J.stop i H')
def PostI (c : RC) (W : WX) (H : Hp) (σ : L2.St) (R : It → Hp → Prop) : Out (List D) → Prop
  | .ok ds s' => ∀ c' H' J vs, Ext c H c' H' → SOk c' H' s' → RepI c' H' ds vs → ItOk J vs c' H' → R J H'
  | .exc k l s' => ∀ c' H' C dd, c.mg k = some (.ref C) → Ext c H c' H' → SOk c' H' s' → XF c' H' l dd → W (.ref C) dd σ H'
  | .bad => False
theorem PostI.shift {c c1 : RC} {W : WX} {H H1 : Hp} {σ : L2.St} {R : It → Hp → Prop} {o : Out (List D)} (h : PostI c W H σ R o) (e : Ext c H c1 H1) : PostI c1 W H1 σ R o := by
  cases o with
  | ok ds s => exact fun c' H' J vs e' => h c' H' J vs (e.trans e')
  | exc k l s => exact fun c' H' C dd hk e' so x => h c' H' C dd (by rw [← e.mg]; exact hk) (e.trans e') so x
  | bad => exact h
theorem PostI.bind {α ω : Type} {rel : RC → Hp → α → ω → Prop} {c : RC} {W : WX} {H : Hp} {σ : L2.St} {R : It → Hp → Prop} {o : Out α} {f : α → Sto → Out (List D)} {Q : ω → Hp → Prop}
    (h : PostI c W H σ R (o.bind f)) (k : ∀ x s c' H' v, Ext c H c' H' → SOk c' H' s → rel c' H' x v → PostI c' W H' σ R (f x s) → Q v H') : PostG rel c W H σ Q o := by
  cases o with
  | ok x s => exact fun c' H' v e so r => k x s c' H' v e so r (PostI.shift (show PostI c W H σ R (f x s) from h) e)
  | exc kk l s => exact h
  | bad => exact h
/-- a walk over what does not change meanwhile -/
def iG (K : PySem.W.Frag) (mg : Str → Option Value) (bt : Bx) (f : En → Sto → Out (List D)) (W : WX) : TI := fun σ H R =>
  ∃ c en s, Of K mg bt c ∧ SOk c H s ∧ EnOk c H en σ ∧ PostI c W H σ R (f en s)
def SI (X : Cx) (bt : Bx) (W : WX) (tg e : Expr) (f : En → Sto → Out (List D)) : Prop := PI X tg e (iG X.K X.mg bt f W)
theorem PI.weak {tg e : Expr} {t t' : TI} (h : PI X tg e t) (w : ∀ σ H R, t' σ H R → t σ H R) : PI X tg e t' := ⟨fun pins s σ H R I q => h.run pins s σ H R I (w σ H R q)⟩
/-- values that are walked: frozen ones -/
def walkD : Vl → Option (List D)
  | .d (.tup l) => some l
  | .d (.lst l) => some l
  | .d (.scr l) => some (l.map .int)
  | _ => none
theorem itl_ok {K : PySem.W.Frag} {c : RC} {H : Hp} {a : Addr} {xs : List V} (k : ∀ H', Kp1 c H H' → SqL K H' a xs) : ItOk (Itl K a) (xs.map .one) c H := fun H' kp i => by
  have h := k H' kp
  refine ⟨fun v e => ?_, fun e => ?_⟩
  · rw [List.getElem?_map] at e
    cases hx : xs[i]? with
    | none => rw [hx] at e; cases e
    | some x =>
      rw [hx] at e
      cases e
      refine ⟨⟨xs, x, h, hx⟩, fun y H'' q => ⟨?_, q.1⟩⟩
      have z := q.2 xs h
      rw [hx] at z
      cases z
      rfl
  · rw [List.getElem?_map] at e
    cases hx : xs[i]? with
    | some x => rw [hx] at e; cases e
    | none => exact ⟨xs, h, by simpa using hx⟩
theorem itt_ok {K : PySem.W.Frag} {c : RC} {H : Hp} {a : Addr} {xs : List V} (k : ∀ H', Kp1 c H H' → SqT K H' a xs) : ItOk (Itt K a) (xs.map .one) c H := fun H' kp i => by
  have h := k H' kp
  refine ⟨fun v e => ?_, fun e => ?_⟩
  · rw [List.getElem?_map] at e
    cases hx : xs[i]? with
    | none => rw [hx] at e; cases e
    | some x =>
      rw [hx] at e
      cases e
      refine ⟨⟨xs, x, h, hx⟩, fun y H'' q => ⟨?_, q.1⟩⟩
      have z := q.2 xs h
      rw [hx] at z
      cases z
      rfl
  · rw [List.getElem?_map] at e
    cases hx : xs[i]? with
    | some x => rw [hx] at e; cases e
    | none => exact ⟨xs, h, by simpa using hx⟩
theorem its_ok {c : RC} {H : Hp} {z : Str} : ItOk (Its z) ((z.cps.toList.map fun k => V.str ⟨#[k]⟩).map .one) c H := fun H' kp i => by
  rw [List.map_map, List.getElem?_map]
  refine ⟨fun v e => ?_, fun e => ?_⟩
  · cases hx : z.cps.toList[i]? with
    | none => rw [hx] at e; cases e
    | some k =>
      rw [hx] at e
      cases e
      have hx' : z.cps[i]? = some k := by rw [← hx, Array.getElem?_toList]
      refine ⟨(Array.getElem?_eq_some_iff.mp hx').1, fun y H'' q => ⟨?_, q.1⟩⟩
      obtain ⟨_, k', e1, e2⟩ := q
      rw [hx'] at e1
      cases e1
      exact e2
  · cases hx : z.cps.toList[i]? with
    | some k => rw [hx] at e; cases e
    | none =>
      have := List.getElem?_eq_none_iff.mp hx
      rw [Array.length_toList] at this
      exact this
theorem itr_ok {c : RC} {H : Hp} {lo : Int} {n : Nat} : ItOk (Itr lo n) (((List.range n).map fun k => V.int (lo + (k : Nat))).map .one) c H := fun H' kp i => by
  rw [List.map_map, List.getElem?_map]
  refine ⟨fun v e => ?_, fun e => ?_⟩
  · cases hx : (List.range n)[i]? with
    | none => rw [hx] at e; cases e
    | some k =>
      rw [hx] at e
      cases e
      obtain ⟨h1, h2⟩ := List.getElem?_eq_some_iff.mp hx
      rw [List.length_range] at h1
      rw [List.getElem_range] at h2
      subst h2
      exact ⟨h1, fun y H'' q => ⟨q.2, q.1⟩⟩
  · cases hx : (List.range n)[i]? with
    | some k => rw [hx] at e; cases e
    | none =>
      have := List.getElem?_eq_none_iff.mp hx
      rw [List.length_range] at this
      exact this
/-- any value that is walked -/
def iAny (K : PySem.W.Frag) (te : TE) : TI := fun σ H R => te σ H fun x H1 => (∃ a xs, x = .ref a ∧ SqL K H1 a xs ∧ R (Itl K a) H1) ∨ (∃ a xs, x = .ref a ∧ SqT K H1 a xs ∧ R (Itt K a) H1) ∨ ∃ z, x = .str z ∧ R (Its z) H1
theorem pi_any {tg e : Expr} {te : TE} (he : PE X e te) : PI X tg e (iAny X.K te) := by
  refine ⟨fun pins s σ H R I h => ?_⟩
  refine thn (he.run pins s σ H _ I h) fun v s1 ⟨x, H1, I1, r1, q1⟩ => ?_
  rcases q1 with ⟨a, xs, rfl, hq, q⟩ | ⟨a, xs, rfl, hq, q⟩ | ⟨z, rfl, q⟩
  · cases r1
    obtain ⟨its, rv, pl, hz⟩ := I1.list hq
    exact wpAny_pyIter_list pl.isList (pi_one (tk := s1.toks) I1 _ (turn_list a _) ⟨_, Heap.get?_push_size _ rfl, rfl, rfl⟩ q)
  · cases r1
    obtain ⟨its, rv, pl, hz⟩ := I1.tuple hq
    exact wpAny_pyIter_tuple (show s1.heap.IsTuple a its.toArray from pl) (pi_one (tk := s1.toks) I1 _ (turn_tuple a _) ⟨_, Heap.get?_push_size _ rfl, rfl, rfl⟩ q)
  · obtain ⟨t, rfl⟩ := r1
    cases ha : z.cps.all (· < 128)
    · exact wpAny_pyIter_wide ha (pi_one (tk := s1.toks) I1 _ (turn_str _ z t "str_iterator" (.inr rfl)) ⟨_, Heap.get?_push_size _ rfl, rfl, rfl⟩ q)
    · exact wpAny_pyIter_ascii ha (pi_one (tk := s1.toks) I1 _ (turn_str _ z t "str_ascii_iterator" (.inl rfl)) ⟨_, Heap.get?_push_size _ rfl, rfl, rfl⟩ q)
def walkV : Vl → Option (List D)
  | .d (.tup l) => some l
  | .d (.lst l) => some l
  | .d (.scr l) => some (l.map .int)
  | .d (.str z) => some (z.cps.toList.map fun k => .str ⟨#[k]⟩)
  | _ => none
theorem reps_signs {c : RC} {H : Hp} : ∀ l : List Nat, Reps c H (l.map fun k => .str ⟨#[k]⟩) (l.map fun k => V.str ⟨#[k]⟩)
  | [] => .nil
  | k :: l => .cons (.str _) (reps_signs l)
theorem reps_range {c : RC} {H : Hp} (lo : Int) : ∀ l : List Nat, Reps c H (l.map fun k => .int (lo + (k : Nat))) (l.map fun k => V.int (lo + (k : Nat)))
  | [] => .nil
  | k :: l => .cons (.int _) (reps_range lo l)
def iV (f : ME) : En → Sto → Out (List D) := fun en s => (f en s).bind fun x s1 => match walkV x with
  | some l => .ok l s1
  | none => .bad
theorem iG_of {α ω : Type} {rel : RC → Hp → α → ω → Prop} {f : En → Sto → Out α} {k : α → Sto → Out (List D)} {σ : L2.St} {H : Hp} {R : It → Hp → Prop} {Q : ω → Hp → Prop} (h : iG X.K X.mg bt (fun en s => (f en s).bind k) W σ H R)
    (q : ∀ x s1 c1 H1 v, Of X.K X.mg bt c1 → SOk c1 H1 s1 → rel c1 H1 x v → PostI c1 W H1 σ R (k x s1) → Q v H1) : tG rel X.K X.mg bt f W σ H Q := by
  obtain ⟨c, en, s, of, so, eo, po⟩ := h
  exact ⟨c, en, s, of, so, eo, PostI.bind po fun x s1 c1 H1 v e so1 r po1 => q x s1 c1 H1 v (e.of of) so1 r po1⟩
theorem si_any {tg e : Expr} {f : ME} (h : SE X bt W e f) : SI X bt W tg e (iV f) := PI.weak (pi_any h) fun σ H R hw => iG_of hw fun x s1 c1 H1 v of so r q => by
  cases hx : walkV x with
  | none => rw [hx] at q; exact q.elim
  | some l =>
    rw [hx] at q
    unfold walkV at hx
    split at hx
    · cases hx
      cases r with | d r =>
      cases r with | tup h1 h2 =>
      exact .inr (.inl ⟨_, _, rfl, of.K ▸ h1, q c1 H1 _ _ (.refl _ _) so (.of h2) (itt_ok fun H' kp => by
        rw [of.K] at h1
        rcases h1 with (h | ⟨o, h⟩) | h
        · exact .inl (.inl (kp.tups _ _ h))
        · exact .inl (.inr ⟨o, kp.frzs _ _ _ h⟩)
        · exact .inr h)⟩)
    · cases hx
      cases r with | d r =>
      cases r with | lst h1 h2 h3 =>
      exact .inl ⟨_, _, rfl, .inl (.of h1), q c1 H1 _ _ (.refl _ _) so (.of h3) (itl_ok fun H' kp => .inl (.of (kp.same _ _ h1 h2.1 fun _ z => nomatch z)))⟩
    · cases hx
      cases r with | d r =>
      cases r with | scr h1 =>
      rw [of.K] at h1
      exact .inl ⟨_, _, rfl, h1.sq, q c1 H1 _ _ (.refl _ _) so (.of (reps_ints _)) (itl_ok fun H' kp => by
        rcases h1 with ⟨o, h⟩ | h
        · exact .inl (.inr ⟨o, kp.frzs _ _ _ h⟩)
        · exact .inr h)⟩
    · cases hx
      cases r with | d r =>
      cases r
      exact .inr (.inr ⟨_, rfl, q c1 H1 _ _ (.refl _ _) so (.of (reps_signs _)) its_ok⟩)
    · cases hx
/-- range(..) -/
def rng1V (as : List Vl) : Option (List D) := match as with
  | [.d (.int j)] => if -(2 ^ 62) ≤ j ∧ j < 2 ^ 62 then some ((List.range j.toNat).map fun k => .int (0 + (k : Nat))) else none
  | _ => none
def rng2V (as : List Vl) : Option (List D) := match as with
  | [.d (.int i), .d (.int j)] => if -(2 ^ 62) ≤ i ∧ i < 2 ^ 62 ∧ -(2 ^ 62) ≤ j ∧ j < 2 ^ 62 then some ((List.range (j - i).toNat).map fun k => .int (i + (k : Nat))) else none
  | _ => none
def iR (g : List Vl → Option (List D)) (fa : MA) : En → Sto → Out (List D) := fun en s => (fa en s).bind fun as s1 => match g as with
  | some l => .ok l s1
  | none => .bad
theorem si_range1 {tg a : Expr} {fa : MA} {p pos : Pos} (h : Here X N sc) (hm : X.mg "range" = none) (ha : SA X bt W [a] fa) (hg : gloB sc "range" = true := by kernel_rfl) (hs : starEach [a] X.env = [(false, eval a X.env)] := by rfl) :
    SI X bt W tg (.Call (.Name "range" p) [a] [] pos) (iR rng1V fa) := PI.weak (pi_range1 (gloB_ok h.sc hg).1 hm ha hs) fun σ H R hw => iG_of hw fun x s1 c1 H1 v of so r q => by
  cases hx : rng1V x with
  | none => rw [hx] at q; exact q.elim
  | some l =>
    rw [hx] at q
    unfold rng1V at hx
    split at hx
    · split at hx
      · cases hx
        rename_i hb
        obtain ⟨y, rfl, ry⟩ := r.one
        cases ry with | d ry =>
        cases ry
        exact ⟨_, rfl, hb.1, hb.2, q c1 H1 _ _ (.refl _ _) so (.of (reps_range 0 _)) itr_ok⟩
      · cases hx
    · cases hx
theorem si_range2 {tg a b : Expr} {fa : MA} {p pos : Pos} (h : Here X N sc) (hm : X.mg "range" = none) (ha : SA X bt W [a, b] fa) (hg : gloB sc "range" = true := by kernel_rfl) (hs : starEach [a, b] X.env = [(false, eval a X.env), (false, eval b X.env)] := by rfl) (hs2 : starEach [b] X.env = [(false, eval b X.env)] := by rfl) :
    SI X bt W tg (.Call (.Name "range" p) [a, b] [] pos) (iR rng2V fa) := PI.weak (pi_range2 (gloB_ok h.sc hg).1 hm ha hs hs2) fun σ H R hw => iG_of hw fun x s1 c1 H1 v of so r q => by
  cases hx : rng2V x with
  | none => rw [hx] at q; exact q.elim
  | some l =>
    rw [hx] at q
    unfold rng2V at hx
    split at hx
    · split at hx
      · cases hx
        rename_i hb
        obtain ⟨y, z, rfl, ry, rz⟩ := r.two
        cases ry with | d ry => cases rz with | d rz =>
        cases ry
        cases rz
        exact ⟨_, _, rfl, hb, q c1 H1 _ _ (.refl _ _) so (.of (reps_range _ _)) itr_ok⟩
      · cases hx
    · cases hx

/-! ## for -/
def foGo (g : GT) (body : MS) : List D → MS
  | [], en, s => .nx en s
  | d :: ds, en, s => match g (.d d) s en with
    | none => .bad
    | some en1 => match body en1 s with
      | .nx en' s' => foGo g body ds en' s'
      | .ct en' s' => foGo g body ds en' s'
      | .bk en' s' => .nx en' s'
      | o => o
def sFor (fi : En → Sto → Out (List D)) (g : GT) (body : MS) : MS := fun en s => (fi en s).then en fun ds s1 => foGo g body ds en s1
theorem yields_ext {c : RC} {H H' : Hp} {x : V} {v : IVr} {d : D} (y : yields H x H' v) (r : v.rep c H d) : Ext c H c H' ∧ (∀ S, SOk c H S → SOk c H' S) ∧ Rep c H' d x := by
  cases v with
  | one v =>
    obtain ⟨rfl, rfl⟩ := y
    exact ⟨.refl _ _, fun _ h => h, r⟩
  | tup l =>
    obtain ⟨p, rfl, hp, rfl⟩ := y
    cases d <;> first | exact r.elim | skip
    have z := new_tup hp r
    cases z with | d z =>
    exact ⟨.fresh hp, fun _ h => h.fresh hp, z⟩
theorem ss_for {vs0 : List Nat} {tg iter : Expr} {body : List Stmt} {fi : En → Sto → Out (List D)} {g : GT} {fb : MS} {p : Pos} (pas : PassesOwn (model X.prog X.w) X.A X.env X.xe) (hc : X.calm = true) (hi : SI X bt W tg iter fi) (hg : STg X bt tg vs0 g) (hb : SSs X bt W body fb)
    (hs : ∀ x, foldedSetIterable iter X.env x = pure x := by intro _; rfl) : SS X bt W (.For tg iter body [] p) (sFor fi g fb) :=
  PS.weak (ps_for pas hc hi hg hb hs) fun E σ H => by
    rintro ⟨c, en, s, of, so, eo, po⟩
    refine ⟨c, en, s, of, so, eo, ?_⟩
    unfold sFor at po
    cases hf : fi en s with
    | bad => rw [hf] at po; exact po.elim
    | exc k l s' => rw [hf] at po; exact fun c' H' C dd hm e so' x => po c' H' σ C dd hm e so' (eo.mono e) x
    | ok ds s1 =>
      rw [hf] at po
      intro c1 H1 J vs e1 so1 r1 it
      have po1 : PostS c1 W H1 E (foGo g fb ds en s1) := PostS.shift (show PostS c W H E (foGo g fb ds en s1) from po) e1
      refine ⟨fun i m σ' H' => ∃ c' en' s', Ext c1 H1 c' H' ∧ SOk c' H' s' ∧ EnOk c' H' en' σ' ∧ m + i = ds.length ∧ PostS c' W H' E (foGo g fb (ds.drop i) en' s'), ⟨ds.length, c1, en, s1, .refl _ _, so1, eo.mono e1, by omega, by rw [List.drop_zero]; exact po1⟩, ?_⟩
      rintro i m σ' H' ⟨c', en', s', e', so', eo', hm, po'⟩
      obtain ⟨hgo, hstop⟩ := it H' e'.kp1 i
      cases hd : ds[i]? with
      | none =>
        have hi : ds.length ≤ i := List.getElem?_eq_none_iff.mp hd
        rw [List.drop_eq_nil_of_le hi] at po'
        exact .inl ⟨hstop (List.getElem?_eq_none_iff.mpr (by rw [← r1.length]; exact hi)), po' c' H' σ' (.refl _ _) so' eo'⟩
      | some d =>
        obtain ⟨v, hv, rv⟩ := r1.get hd
        obtain ⟨h1, h2⟩ := hgo v hv
        have hlt : i < ds.length := (List.getElem?_eq_some_iff.mp hd).1
        have hds : ds.drop i = d :: ds.drop (i + 1) := by
          rw [List.drop_eq_getElem_cons hlt]
          have : ds[i] = d := (List.getElem?_eq_some_iff.mp hd).2
          rw [this]
        rw [hds] at po'
        unfold foGo at po'
        refine .inr ⟨h1, fun σ2 H2 => ∃ c2 en2 s2, Ext c1 H1 c2 H2 ∧ SOk c2 H2 s2 ∧ EnOk c2 H2 en2 σ2 ∧ PostS c2 W H2 E (foGo g fb (ds.drop (i + 1)) en2 s2), fun σ2 H2 ⟨c2, en2, s2, a1, a2, a3, a4⟩ => ⟨m - 1, by omega, c2, en2, s2, a1, a2, a3, by omega, a4⟩, fun x H2 y => ?_⟩
        obtain ⟨e2, so2, rx⟩ := yields_ext (h2 x H2 y) (rv.kp e'.kpx)
        split at po'
        · exact po'.elim
        · rename_i en1 hen
          refine ⟨c', en', s', x |> fun _ => .d d, en1, e'.of (e1.of of), so2 _ so', eo'.mono e2, .d rx, hen, fun σ3 eo3 _ => ?_⟩
          refine ⟨c', en1, s', e'.of (e1.of of), so2 _ so', eo3, ?_⟩
          have po2 := PostS.shift po' e2
          cases hfb : fb en1 s' with
          | nx en4 s4 => rw [hfb] at po2; exact fun c4 H4 σ4 e4 so4 eo4 => ⟨c4, en4, s4, e'.trans (e2.trans e4), so4, eo4, PostS.shift po2 e4⟩
          | ct en4 s4 => rw [hfb] at po2; exact fun c4 H4 σ4 e4 so4 eo4 => ⟨c4, en4, s4, e'.trans (e2.trans e4), so4, eo4, PostS.shift po2 e4⟩
          | bk en4 s4 => rw [hfb] at po2; exact po2
          | rt x4 s4 => rw [hfb] at po2; exact po2
          | exc k l en4 s4 => rw [hfb] at po2; exact po2
          | bad => rw [hfb] at po2; exact po2
end
end Sm
set_option Elab.async false
set_option linter.all false
set_option maxRecDepth 100000
set_option maxHeartbeats 4000000
namespace Sm
open PySem PySem.Spec PyProof.Rows L2

/-! ## comprehensions -/
abbrev WF : WX := fun _ _ _ _ => False
def wipeE (en : En) : List Nat → En
  | [] => en
  | v :: vs => (wipeE en vs).set v none
theorem EnOk.wipe {c : RC} {H : Hp} {en : En} {σ : L2.St} (h : EnOk c H en σ) : ∀ vs : List Nat, EnOk c H (wipeE en vs) (L2.wipe σ vs)
  | [] => h
  | v :: vs => (EnOk.wipe h vs).unset
theorem wipe_in {σ : L2.St} : ∀ {vs : List Nat} {i : Nat}, i ∈ vs → (L2.wipe σ vs)[i]? = if i < σ.length then some none else none
  | v :: vs, i, h => by
    unfold L2.wipe
    by_cases e : v = i
    · subst e
      rw [List.getElem?_set]
      simp only [if_true, wipe_length]
    · rw [List.getElem?_set_ne e]
      rcases List.mem_cons.mp h with z | z
      · exact absurd z.symm e
      · exact wipe_in z
theorem wipe_but {σ σ' : L2.St} {vs ws : List Nat} (b : But ws (L2.wipe σ vs) σ') (s : ∀ i ∈ ws, i ∈ vs) : L2.wipe σ' vs = L2.wipe σ vs := by
  have hl : σ'.length = σ.length := by rw [b.1, wipe_length]
  apply List.ext_getElem?
  intro i
  by_cases h : i ∈ vs
  · rw [wipe_in h, wipe_in h, hl]
  · rw [wipe_out h, b.2 i (fun z => h (s i z)), wipe_out h]
def noX {α : Type} : Out α → Out α
  | .exc _ _ _ => .bad
  | o => o
def lcGo (g : GT) (ft : MT) (fe : ME) (en : En) : List D → List D → Sto → Out (List D)
  | [], acc, s => .ok acc s
  | d :: ds, acc, s => match g (.d d) s en with
    | none => .bad
    | some en1 => match ft en1 s with
      | .ok true s1 => match fe en1 s1 with
        | .ok (.d y) s2 => if acc.length < sizeLine then lcGo g ft fe en ds (acc ++ [y]) s2 else .bad
        | _ => .bad
      | .ok false s1 => lcGo g ft fe en ds acc s1
      | _ => .bad
def eLc (own : List Nat) (fi : En → Sto → Out (List D)) (g : GT) (ft : MT) (fe : ME) : ME := fun en s => (fi en s).bind fun ds s1 => (lcGo g ft fe (wipeE en own) ds [] s1).bind fun l s2 => .ok (.d (.lst l)) s2
section
variable {X : Cx} {bt : Bx} {W : WX} {N : List Str} {sc : Scope}
def SIfs (X : Cx) (bt : Bx) (es : List Expr) (f : MT) : Prop := PTs X es (tG relB X.K X.mg bt f WF)
def eYes : MT := fun _ s => .ok true s
theorem PTs.weak {es : List Expr} {t t' : TT} (h : PTs X es t) (w : ∀ σ H Q, t' σ H Q → t σ H Q) : PTs X es t' := ⟨fun pins s σ H Q I q => h.run pins s σ H Q I (w σ H Q q)⟩
theorem sifs_nil : SIfs X bt [] eYes := PTs.weak pts_nil fun σ H Q => by
  rintro ⟨c, en, s, of, so, eo, po⟩
  exact po c H true (.refl _ _) so rfl
theorem sifs_one {e : Expr} {f : MT} (h : ST X bt WF e f) : SIfs X bt [e] f := pts_one h
theorem PG.ex {e : Expr} {t : Addr → TG} (h : ∀ D, PG X e (t D)) : PG X e (fun v σ H Q => ∃ D, t D v σ H Q) := ⟨fun pins s σ H v u Q I r q => let ⟨D, q⟩ := q; (h D).run pins s σ H v u Q I r q⟩
theorem PTs.ex {e : List Expr} {t : Addr → TT} (h : ∀ D, PTs X e (t D)) : PTs X e (fun σ H Q => ∃ D, t D σ H Q) := ⟨fun pins s σ H Q I q => let ⟨D, q⟩ := q; (h D).run pins s σ H Q I q⟩
theorem PE.ex {e : Expr} {t : Addr → TE} (h : ∀ D, PE X e (t D)) : PE X e (fun σ H Q => ∃ D, t D σ H Q) := ⟨fun pins s σ H Q I q => let ⟨D, q⟩ := q; (h D).run pins s σ H Q I q⟩
/-- a list that is made meanwhile is out of all that is tracked -/
theorem kpx_upd {c : RC} {H : Hp} {D : Addr} {xs : List V} {o : HO} (hD : H D = some (.lst xs)) (m : D ∈ c.bt.l) : Kpx c H c (upd H D o) := by
  refine ⟨rfl, rfl, fun _ h _ => h, fun a u e x _ => ?_, fun a u e => ?_, fun a u v e => ?_⟩
  · rw [upd_ne (fun z => x.2 (by rw [z]; exact m))]; exact e
  · rw [upd_ne (fun z => by rw [z, hD] at e; cases e)]; exact e
  · rw [upd_ne (fun z => by rw [z, hD] at e; cases e)]; exact e
theorem ext_upd {c c' : RC} {H H' : Hp} {D : Addr} {o : HO} (e : Ext c H c' H') (hD : H D = none) : Ext c H c' (upd H' D o) := by
  refine ⟨e.pre, fun a h => upd_live a (e.live a h), fun a u h x nt => ?_, fun a u h => ?_, fun a u v h => ?_⟩
  · rw [upd_ne (ne_of_none h hD)]; exact e.same a u h x nt
  · rw [upd_ne (ne_of_none h hD)]; exact e.tups a u h
  · rw [upd_ne (ne_of_none h hD)]; exact e.frzs a u v h
def Bx.ad (b : Bx) (D : Addr) : Bx := { b with l := D :: b.l }
def RC.ad (c : RC) (D : Addr) : RC := { c with bt := c.bt.ad D }
theorem tLc_of {own : List Nat} {vs0 : List Nat} {fi : En → Sto → Out (List D)} {g : GT} {ft : MT} {fe : ME} {σ : L2.St} {H : Hp} {Q : VK} (hv : ∀ i ∈ vs0, i ∈ own) (h : tG RepV X.K X.mg bt (eLc own fi g ft fe) W σ H Q) :
    tLc (iG X.K X.mg bt fi W) (fun v σ H Q => ∃ D, tGt X.K X.mg (bt.ad D) vs0 g v σ H Q) (fun σ H Q => ∃ D, tG relB X.K X.mg (bt.ad D) ft WF σ H Q) (fun σ H Q => ∃ D, tG RepV X.K X.mg (bt.ad D) fe WF σ H Q) own σ H Q := by
  obtain ⟨c, en, s, of, so, eo, po⟩ := h
  refine ⟨c, en, s, of, so, eo, ?_⟩
  unfold eLc at po
  cases hf : fi en s with
  | bad => rw [hf] at po; exact po
  | exc k l s' => rw [hf] at po; exact po
  | ok ds s1 =>
    rw [hf] at po
    intro c1 H1 J vs e1 so1 r1 it D hD
    have of1 := e1.of of
    have po1 : PostG RepV c1 W H1 σ Q ((lcGo g ft fe (wipeE en own) ds [] s1).bind fun l s2 => .ok (.d (.lst l)) s2) := PostG.shift (show PostG RepV c W H σ Q _ from po) e1
    have nD : D ∉ c1.ph := fun z => so1.live D z hD
    have nB : D ∉ c1.bt.l := fun z => so1.lvb D z hD
    have eo1 : EnOk c1 H1 (wipeE en own) (L2.wipe σ own) := (eo.mono e1).wipe own
    -- with the new list out of the way
    have k0 : Kpx c1 H1 (c1.ad D) H1 := kpx_re (l := c1.ph) (m := D :: c1.bt.l) fun a x hn => ⟨x.1, fun z => by
      rcases List.mem_cons.mp z with z | z
      · rw [z] at hn; exact hn hD
      · exact x.2 z⟩
    have lv0 : ∀ a ∈ (c1.ad D).bt.l, upd H1 D (.lst []) a ≠ none := fun a ha => by
      rcases List.mem_cons.mp ha with z | z
      · rw [z, upd_same]; exact fun z => nomatch z
      · exact upd_live a (so1.lvb a z)
    have k1 : Kpx c1 H1 (c1.ad D) (upd H1 D (.lst [])) := ⟨k0.K, k0.mg, k0.ex, fun a o e x nt => by rw [upd_ne (ne_of_none e hD)]; exact e, fun a xs e => by rw [upd_ne (ne_of_none e hD)]; exact e, fun a o u e => by rw [upd_ne (ne_of_none e hD)]; exact e⟩
    have soD : SOk (c1.ad D) (upd H1 D (.lst [])) s1 := so1.kp k1 rfl lv0 fun a _ o e _ => by rw [upd_ne (ne_of_none e hD)]; exact e
    have exD : Ext (c1.ad D) H1 (c1.ad D) (upd H1 D (.lst [])) := ext_upd (.refl _ _) hD
    refine ⟨fun i m H' => ∃ c' s' xs acc, Ext (c1.ad D) H1 c' H' ∧ SOk c' H' s' ∧ EnOk c' H' (wipeE en own) (L2.wipe σ own) ∧ D ∉ c'.ph ∧ H' D = some (.lst xs) ∧ Reps c' H' acc xs ∧ m + i = ds.length ∧
      PostG RepV c1 W H1 σ Q ((lcGo g ft fe (wipeE en own) (ds.drop i) acc s').bind fun l s2 => .ok (.d (.lst l)) s2),
      ⟨ds.length, c1.ad D, s1, [], [], exD, soD, eo1.kp k1 rfl rfl, nD, upd_same, .nil, by omega, by rw [List.drop_zero]; exact po1⟩, ?_⟩
    rintro i m H' ⟨c', s', xs, acc, e', so', eo', nD', hxs, racc, hm, po'⟩
    have hbt : c'.bt = c1.bt.ad D := by obtain ⟨l, rfl, _⟩ := e'.pre; rfl
    have mD : D ∈ c'.bt.l := by rw [hbt]; exact List.mem_cons_self
    have of' : Of X.K X.mg (bt.ad D) c' := e'.of ⟨of1.K, of1.mg, by show c1.bt.ad D = _; rw [of1.bt]⟩
    obtain ⟨hgo, hstop⟩ := it H' (show Kp1 c1 H1 H' from ⟨e'.same, e'.tups, e'.frzs⟩) i
    cases hd : ds[i]? with
    | none =>
      have hi : ds.length ≤ i := List.getElem?_eq_none_iff.mp hd
      rw [List.drop_eq_nil_of_le hi] at po'
      refine .inl ⟨hstop (List.getElem?_eq_none_iff.mpr (by rw [← r1.length]; exact hi)), ?_⟩
      have kb : Kpx c' H' (c'.re c'.ph c1.bt.l) H' := kpx_re fun a x _ => ⟨x.1, fun z => x.2 (by rw [hbt]; exact List.mem_cons_of_mem _ z)⟩
      have eb : Ext c1 H1 (c'.re c'.ph c1.bt.l) H' := by
        obtain ⟨l, rfl, hl⟩ := e'.pre
        exact ⟨⟨l, rfl, hl⟩, e'.live, e'.same, e'.tups, e'.frzs⟩
      exact po' _ H' _ eb (so'.kp kb rfl (fun a ha => so'.lvb a (by rw [hbt]; exact List.mem_cons_of_mem _ ha)) fun _ _ _ e _ => e) (.d (.lst hxs ⟨nD', nB⟩ (Reps.kp kb _ _ racc)))
    | some d =>
      obtain ⟨v, hv1, rv⟩ := r1.get hd
      obtain ⟨h1, h2⟩ := hgo v hv1
      have hlt : i < ds.length := (List.getElem?_eq_some_iff.mp hd).1
      have hds : ds.drop i = d :: ds.drop (i + 1) := by
        rw [List.drop_eq_getElem_cons hlt]
        have : ds[i] = d := (List.getElem?_eq_some_iff.mp hd).2
        rw [this]
      rw [hds] at po'
      unfold lcGo at po'
      refine .inr ⟨h1, fun H2 => ∃ c' s' xs acc, Ext (c1.ad D) H1 c' H2 ∧ SOk c' H2 s' ∧ EnOk c' H2 (wipeE en own) (L2.wipe σ own) ∧ D ∉ c'.ph ∧ H2 D = some (.lst xs) ∧ Reps c' H2 acc xs ∧
        PostG RepV c1 W H1 σ Q ((lcGo g ft fe (wipeE en own) (ds.drop (i + 1)) acc s').bind fun l s2 => .ok (.d (.lst l)) s2),
        fun H2 ⟨c2, s2, xs2, acc2, a1, a2, a3, a4, a5, a6, a7⟩ => ⟨m - 1, by omega, c2, s2, xs2, acc2, a1, a2, a3, a4, a5, a6, by omega, a7⟩, fun x H2 y => ?_⟩
      obtain ⟨e2, so2, rx⟩ := yields_ext (h2 x H2 y) ((rv.kp k0).kp e'.kpx)
      have hxs2 : H2 D = some (.lst xs) := e2.same D _ hxs nD' fun _ z => nomatch z
      cases hen : g (.d d) s' (wipeE en own) with
      | none => rw [hen] at po'; exact po'.elim
      | some en1 =>
        rw [hen] at po'
        refine ⟨D, c', wipeE en own, s', .d d, en1, of', so2 _ so', eo'.mono e2, .d rx, hen, fun σ3 eo3 b3 => ⟨wipe_but b3 hv, ?_⟩⟩
        refine ⟨D, c', en1, s', of', so2 _ so', eo3, ?_⟩
        dsimp only at po'
        have live2 : ∀ {c3 : RC} {H3 : Hp}, Ext c' H2 c3 H3 → D ∉ c3.ph ∧ H3 D = some (.lst xs) := fun {c3 H3} e3 => by
          refine ⟨fun z => ?_, e3.same D _ hxs2 nD' fun _ z => nomatch z⟩
          obtain ⟨l, rfl, hl⟩ := e3.pre
          rcases List.mem_append.mp z with z | z
          · exact nD' z
          · have := hl D z
            rw [hxs2] at this
            cases this
        cases hft : ft en1 s' with
        | bad => rw [hft] at po'; exact po'.elim
        | exc k l s3 => rw [hft] at po'; exact po'.elim
        | ok b s3 =>
          rw [hft] at po'
          intro c3 H3 b' e3 so3 hb
          subst hb
          obtain ⟨nD3, hD3⟩ := live2 e3
          cases b with
          | false =>
            rw [if_neg Bool.false_ne_true]
            exact ⟨c3, s3, xs, acc, e'.trans (e2.trans e3), so3, (eo'.mono e2).mono e3, nD3, hD3, Reps.mono (e2.trans e3) _ _ racc, po'⟩
          | true =>
            rw [if_pos rfl]
            dsimp only at po'
            refine ⟨D, c3, en1, s3, (e2.trans e3).of of', so3, eo3.mono e3, ?_⟩
            cases hfe : fe en1 s3 with
            | bad => rw [hfe] at po'; exact po'.elim
            | exc k l s4 => rw [hfe] at po'; exact po'.elim
            | ok yv s4 =>
              rw [hfe] at po'
              cases yv with
              | ref n => exact po'.elim
              | xcp l => exact po'.elim
              | d yd =>
                dsimp only at po'
                split at po'
                · rename_i hz
                  intro c4 H4 yy e4 so4 ry
                  cases ry with | d ry =>
                  obtain ⟨nD4, hD4⟩ := live2 (e3.trans e4)
                  have e14 := e2.trans (e3.trans e4)
                  have hbt4 : c4.bt = c1.bt.ad D := by
                    obtain ⟨l, rfl, _⟩ := e14.pre
                    exact hbt
                  have mD4 : D ∈ c4.bt.l := by rw [hbt4]; exact List.mem_cons_self
                  have ku : Kpx c4 H4 c4 (upd H4 D (.lst (xs ++ [yy]))) := kpx_upd hD4 mD4
                  have racc4 := Reps.mono e14 _ _ racc
                  refine ⟨xs, hD4, by rw [← racc4.length]; exact hz, c4, s4, xs ++ [yy], acc ++ [yd], ext_upd (e'.trans e14) hD, ?_, (eo'.mono e14).kp ku rfl rfl, nD4, upd_same, Reps.kp ku _ _ (racc4.append (.cons ry .nil)), po'⟩
                  exact so4.kp ku rfl (fun a ha => upd_live a (so4.lvb a ha)) fun a ha o e _ => by rw [upd_ne (fun z => nD4 (by rw [← z]; exact ha))]; exact e
                · exact po'.elim
theorem se_lc {elt tg iter : Expr} {ifs : List Expr} {scope : Scope} {pos : Pos} {vs0 : List Nat} {fi : En → Sto → Out (List D)} {g : GT} {ft : MT} {fe : ME} (h : Here X N sc) (own : List (Str × Nat)) (hc : X.calm = true) (nd : X.N.Nodup) (hi : SI X bt W tg iter fi)
    (hg : ∀ (s : Shared) (H : Hp) (C : Addr) (cl : List (Str × Addr)) (fp : List Addr) (bt : Bx), STg (X.blk s H scope (compEnvC scope cl C X.env) fp) bt tg vs0 g)
    (ht : ∀ (s : Shared) (H : Hp) (C : Addr) (cl : List (Str × Addr)) (fp : List Addr) (bt : Bx), SIfs (X.blk s H scope (compEnvC scope cl C X.env) fp) bt ifs ft)
    (he : ∀ (s : Shared) (H : Hp) (C : Addr) (cl : List (Str × Addr)) (fp : List Addr) (bt : Bx), SE (X.blk s H scope (compEnvC scope cl C X.env) fp) bt WF elt fe)
    (ok : blkC N sc scope own = true := by kernel_rfl) (hv : ∀ i ∈ vs0, i ∈ own.map (·.2) := by decide) (hs : ∀ x, foldedSetIterable iter X.env x = pure x := by intro _; rfl) :
    SE X bt W (.ListComp elt [⟨tg, iter, ifs, 0⟩] scope pos) (eLc (own.map (·.2)) fi g ft fe) :=
  PE.weak (pe_lc (own := own) hc nd hi (by rw [h.N, h.sc]; exact blkOk_by ok) (fun s H C cl fp => PG.ex (t := fun D => tGt X.K X.mg (bt.ad D) vs0 g) fun D => hg s H C cl fp (bt.ad D)) (fun s H C cl fp => PTs.ex (t := fun D => tG relB X.K X.mg (bt.ad D) ft WF) fun D => ht s H C cl fp (bt.ad D)) (fun s H C cl fp => PE.ex (t := fun D => tG RepV X.K X.mg (bt.ad D) fe WF) fun D => he s H C cl fp (bt.ad D)) hs) fun σ H Q hw => tLc_of hv hw
def envS (sc : Scope) : Env := envOfC (Str.ofString "") sc 0 0 .none
theorem swaps_env {e : Expr} {o : Option Expr} {n : Nat} {env : Env} : swapsWith e o n env = swapsWith e o n (envS env.scope) := by cases o <;> rfl
theorem ss_setLc {y : Str} {py : Pos} {elt tg iter : Expr} {ifs : List Expr} {scope : Scope} {pos spos : Pos} {vs0 : List Nat} {fi : En → Sto → Out (List D)} {g : GT} {ft : MT} {fe : ME} (h : Here X N sc) (i : Nat) (own : List (Str × Nat)) (hc : X.calm = true) (nd : X.N.Nodup)
    (hsw : swapsWith (.ListComp elt [⟨tg, iter, ifs, 0⟩] scope pos) (some (.Name y py)) spos.line (envS sc) = pure true) (hi : SI X bt W tg iter fi)
    (hg : ∀ (s : Shared) (H : Hp) (C : Addr) (cl : List (Str × Addr)) (fp : List Addr) (bt : Bx), STg (X.blk s H scope (compEnvC scope cl C X.env) fp) bt tg vs0 g)
    (ht : ∀ (s : Shared) (H : Hp) (C : Addr) (cl : List (Str × Addr)) (fp : List Addr) (bt : Bx), SIfs (X.blk s H scope (compEnvC scope cl C X.env) fp) bt ifs ft)
    (he : ∀ (s : Shared) (H : Hp) (C : Addr) (cl : List (Str × Addr)) (fp : List Addr) (bt : Bx), SE (X.blk s H scope (compEnvC scope cl C X.env) fp) bt WF elt fe)
    (hN : N[i]? = some y := by rfl) (hl : lclB sc y = true := by kernel_rfl)
    (ok : blkC N sc scope own = true := by kernel_rfl) (hv : ∀ i ∈ vs0, i ∈ own.map (·.2) := by decide) (hs : ∀ x, foldedSetIterable iter X.env x = pure x := by intro _; rfl) :
    SS X bt W (.Assign [.Name y py] (.ListComp elt [⟨tg, iter, ifs, 0⟩] scope pos) spos) (sSet i (eLc (own.map (·.2)) fi g ft fe)) :=
  PS.weak (ps_setLc (own := own) (i := i) hc nd (by rw [h.N]; exact hN) (by rw [h.sc]; exact lclB_ok hl) (by rw [swaps_env, h.sc]; exact hsw) hi (by rw [h.N, h.sc]; exact blkOk_by ok) (fun s H C cl fp => PG.ex (t := fun D => tGt X.K X.mg (bt.ad D) vs0 g) fun D => hg s H C cl fp (bt.ad D)) (fun s H C cl fp => PTs.ex (t := fun D => tG relB X.K X.mg (bt.ad D) ft WF) fun D => ht s H C cl fp (bt.ad D)) (fun s H C cl fp => PE.ex (t := fun D => tG RepV X.K X.mg (bt.ad D) fe WF) fun D => he s H C cl fp (bt.ad D)) hs) fun E σ H => by
    rintro ⟨c, en, s, of, so, eo, po⟩
    exact tLc_of (W := W) hv ⟨c, en, s, of, so, eo, po.then eo fun x s' c' H' v e so' eo' r po' => po' c' H' _ (.refl _ _) so' (eo'.set r)⟩
end
end Sm
set_option Elab.async false
set_option linter.all false
set_option maxRecDepth 100000
set_option maxHeartbeats 4000000
namespace Sm
open PySem PySem.Spec PyProof.Rows L2

/-! ## defs -/
abbrev MF := List Vl → Sto → Out Vl
/-- where a def's call starts -/
structure AtCall (k : Nat) (A : Around) : Prop where
  room : Room k A
  grd : A.guards = some []
/-- the def at f does M -/
structure FnG (P : Program) (w : World) (K : PySem.W.Frag) (mg : Str → Option Value) (base : Heap) (k : Nat) (f : Addr) (fd : FuncData) (ps : List Str) (M : MF) : Prop where
  run : ∀ (A : Around) (outer : List Env) (s : Shared) (H : Hp) (args : Args) (us : List Value) (vs : List V) (Q : VK) (E : XK) (bt : Bx) (c : RC) (S : Sto) (as : List Vl), AtCall k A → Env0 P w K mg base A outer s H → BindsTo s fd args (ps.zip us) → Vals vs us → vs.length = ps.length →
    Of K mg bt c → c.bt.xc = none → SOk c H S → RepVs c H as vs → PostG RepV c (fun cls d _ H' => E cls d H') H [] Q (M as S) → codeAny (model P w) A (.call (.ref f) args) (CR (L2.CX P w) outer P w H s Q E) s
theorem FnG.mono {P : Program} {w : World} {K : PySem.W.Frag} {mg : Str → Option Value} {base : Heap} {j k : Nat} {f : Addr} {fd : FuncData} {ps : List Str} {M : MF} (F : FnG P w K mg base j f fd ps M) (h : j ≤ k) : FnG P w K mg base k f fd ps M :=
  ⟨fun A outer s H args us vs Q E bt c S as hr => F.run A outer s H args us vs Q E bt c S as ⟨hr.room.mono h, hr.grd⟩⟩
/-- the names at a def's entry -/
def enAt (n : Nat) (as : List Vl) : En := as.map some ++ List.replicate (n - as.length) none
theorem enAt_ok {c : RC} {H : Hp} {N : List Str} {as : List Vl} {vs : List V} (r : RepVs c H as vs) : EnOk c H (enAt N.length as) (L2.start N vs) := by
  have hl := r.length
  refine ⟨by unfold enAt L2.start; rw [List.length_append, List.length_append, List.length_map, List.length_map, List.length_replicate, List.length_replicate, hl], fun i x e => ?_⟩
  unfold enAt at e
  by_cases hi : i < as.length
  · rw [List.getElem?_append_left (by rw [List.length_map]; exact hi), List.getElem?_map] at e
    have get : ∀ {as : List Vl} {vs : List V} {i : Nat}, RepVs c H as vs → Option.map some as[i]? = some (some x) → ∃ v, vs[i]? = some v ∧ RepV c H x v := by
      intro as vs i r
      induction r generalizing i with
      | nil => intro e; simp at e
      | cons h t ih =>
        cases i with
        | zero => intro e; simp at e; subst e; exact ⟨_, rfl, h⟩
        | succ j => intro e; exact ih (i := j) (by simpa using e)
    obtain ⟨v, h1, h2⟩ := get r e
    refine ⟨v, ?_, h2⟩
    unfold L2.start
    rw [List.getElem?_append_left (by rw [List.length_map, ← hl]; exact hi), List.getElem?_map, h1]
    rfl
  · rw [List.getElem?_append_right (by rw [List.length_map]; omega), List.getElem?_replicate] at e
    split at e <;> cases e
/-- what a body gives back -/
def retOf : SO → Out Vl
  | .nx _ s => .ok (.d .non) s
  | .rt x s => .ok x s
  | .exc k l _ s => .exc k l s
  | _ => .bad
/-- a body run with the caller's store -/
def stF (n : Nat) (fb : MS) : MF := fun as S => retOf (fb (enAt n as) S)
/-- a value that leaves its store -/
def frzV (s : Sto) : Vl → Option D
  | .d x => some x
  | .ref n => match s[n]? with
    | some (.lst l) => some (.lst l)
    | _ => none
  | .xcp _ => none
inductive Res where
  | ok (d : D) | exc (k : Str) (l : List (Str × D)) | bad
def Res.of : Out Vl → Res
  | .ok x s => match frzV s x with
    | some d => .ok d
    | none => .bad
  | .exc k l _ => .exc k l
  | .bad => .bad
def Res.out (S : Sto) : Res → Out Vl
  | .ok d => .ok (.d d) S
  | .exc k l => .exc k l S
  | .bad => .bad
/-- a body run with a store of its own -/
def puR (n : Nat) (fb : MS) (ds : List D) : Res := .of (retOf (fb (enAt n (ds.map .d)) []))
def puF (m : List D → Res) : MF := fun as S => match frz as with
  | some ds => (m ds).out S
  | none => .bad
theorem post_ret {c : RC} {H : Hp} {E : XK} {Q : VK} {o : SO} (h : PostG RepV c (fun cls d _ H' => E cls d H') H [] Q (retOf o)) : PostS c (fun cls d _ H' => E cls d H') H { nx := fun _ H' => Q .non H', rt := Q } o := by
  cases o with
  | nx en s => exact fun c' H' σ' e so _ => h c' H' .non e so (.d .non)
  | rt x s => exact fun c' H' v e so r => h c' H' v e so r
  | exc k l en s => exact fun c' H' σ' C dd hk e so _ x => h c' H' C dd hk e so x
  | bk en s => exact h.elim
  | ct en s => exact h.elim
  | bad => exact h.elim
/-- the two ways to run a body -/
inductive Way (n : Nat) (fb : MS) : MF → Prop
  | st : Way n fb (stF n fb)
  | pu : Way n fb (puF (puR n fb))
theorem Way.run {K : PySem.W.Frag} {mg : Str → Option Value} {N : List Str} {fb : MS} {M : MF} (wy : Way N.length fb M) {bt : Bx} {c : RC} {H : Hp} {S : Sto} {as : List Vl} {vs : List V} {Q : VK} {E : XK} (of : Of K mg bt c) (nx : c.bt.xc = none) (so : SOk c H S) (r : RepVs c H as vs)
    (h : PostG RepV c (fun cls d _ H' => E cls d H') H [] Q (M as S)) : ∃ bt' : Bx, bt'.xc = none ∧ tS K mg bt' fb (fun cls d _ H' => E cls d H') { nx := fun _ H' => Q .non H', rt := Q } (L2.start N vs) H := by
  cases wy with
  | st => exact ⟨bt, by rw [← of.bt]; exact nx, c, _, S, of, so, enAt_ok r, post_ret h⟩
  | pu =>
    unfold puF at h
    cases hz : frz as with
    | none => rw [hz] at h; exact h.elim
    | some ds =>
      rw [hz] at h
      dsimp only at h
      have rs := frz_ok r hz
      have lv : ∀ a ∈ c.ph ++ c.bt.l, H a ≠ none := fun a ha => by
        rcases List.mem_append.mp ha with z | z
        · exact so.live a z
        · exact so.lvb a z
      have k0 : Kpx c H (c.re [] (c.ph ++ c.bt.l)) H := kpx_re (l := []) (m := c.ph ++ c.bt.l) fun a x _ => ⟨(fun z => nomatch z), fun z => (List.mem_append.mp z).elim x.1 x.2⟩
      have so0 : SOk (c.re [] (c.ph ++ c.bt.l)) H [] := ⟨rfl, .nil, lv, fun n x a e => nomatch e⟩
      refine ⟨{ bt with l := c.ph ++ c.bt.l }, by rw [← of.bt]; exact nx, c.re [] (c.ph ++ c.bt.l), _, [], ⟨of.K, of.mg, by rw [← of.bt]; rfl⟩, so0, enAt_ok (as := ds.map .d) (reps_vs (Reps.kp k0 _ _ rs)), post_ret ?_⟩
      unfold puR at h
      -- back in the caller's store
      have back : ∀ {c' : RC} {H' : Hp}, Ext (c.re [] (c.ph ++ c.bt.l)) H c' H' → Ext c H c H' ∧ SOk c H' S ∧ Kpx c' H' c H' ∧ ∀ a, a ∈ c'.ph → c.ex a := fun {c' H'} e => by
        have ex : Ext c H c H' := ⟨⟨[], c.up_nil.symm, fun _ z => nomatch z⟩, e.live, fun a o q _ nt => e.same a o q (fun z => nomatch z) nt, e.tups, e.frzs⟩
        obtain ⟨l, rfl, hl⟩ := e.pre
        refine ⟨ex, ?_, ⟨rfl, rfl, fun a x _ => ⟨fun z => x.2 (List.mem_append_left _ z), fun z => x.2 (List.mem_append_right _ z)⟩, fun _ _ q _ _ => q, fun _ _ q => q, fun _ _ _ q => q⟩, fun a ha => ?_⟩
        · exact so.kp ex.kpx rfl (fun a ha => e.live a (so.lvb a ha)) fun a _ o q nt => e.same a o q (fun z => nomatch z) nt
        · have hn : H a = none := hl a (by simpa [RC.up, RC.re] using ha)
          exact ⟨fun z => lv a (List.mem_append_left _ z) hn, fun z => lv a (List.mem_append_right _ z) hn⟩
      cases ho : retOf (fb (enAt N.length (ds.map .d)) []) with
      | bad => rw [ho] at h; exact h.elim
      | exc k l s' =>
        rw [ho] at h
        intro c' H' C dd hk e so' x
        obtain ⟨b1, b2, b3, _⟩ := back e
        refine h c H' C dd hk b1 b2 ?_
        exact x.kp b3
      | ok x s' =>
        rw [ho] at h
        intro c' H' v e so' r'
        obtain ⟨b1, b2, b3, b4⟩ := back e
        unfold Res.of at h
        dsimp only at h
        cases hx : frzV s' x with
        | none => rw [hx] at h; exact h.elim
        | some d =>
          rw [hx] at h
          refine h c H' v b1 b2 (.d ?_)
          cases r' with
          | d r' => cases hx; exact Rep.kp b3 _ _ r'
          | xcp _ _ => cases hx
          | @ref n a r' =>
            unfold frzV at hx
            dsimp only at hx
            split at hx
            · cases hx
              rename_i hl
              obtain ⟨xs, g1, g2⟩ := so'.cell _ _ _ hl r'
              exact .lst g1 (b4 _ (List.mem_of_getElem? r')) (Reps.kp b3 _ _ g2)
            · cases hx
/-- a def by its body -/
theorem fnG_of {P : Program} {w : World} {K : PySem.W.Frag} {mg : Str → Option Value} {base : Heap} {k : Nat} {f : Addr} {name qual : Str} {params : Arguments} {body : List Stmt} {scope : Scope} {dV kV doc pm cdv ct oc : Value} {an od : Option Addr} {osl : Array (Option Value)} {N ps : List Str} {fb : MS} {M : MF}
    (lk : K.lookup f = some ⟨oc, od, .func (PySem.W.fnOf name qual params body scope dV kV doc pm an cdv ct), osl⟩) (hcd : PySem.W.codeIn K cdv qual = true) (S : FnScope N ps scope) (wy : Way N.length fb M)
    (hbody : ∀ (X : Cx) (bt : Bx) (W : WX), X.prog = P → X.w = w → X.K = K → X.mg = mg → X.base = base → X.calm = true → X.stack = X.env :: X.outer → X.env.frame = some X.env.locals → (∀ x, X.fn x = true) → Here X N scope → AtCall k X.A → Takes X W → PassesOwn (model X.prog X.w) X.A X.env X.xe → bt.xc = none → SSs X bt W body fb) :
    FnG P w K mg base (k + 1) f (PySem.W.fnOf name qual params body scope dV kV doc pm an cdv ct) ps M := by
  refine ⟨fun A outer s H args us vs Q E bt c St as hr e0 hb r hl of nx so ra po => ?_⟩
  have keep := fun b o e => (e0.bs b o e).1
  have KX : K.In s.heap := e0.mod.kin.keeps keep
  have nl : s.heap.NoLimit := e0.mod.nolimit.keeps keep
  have kinds : ∀ y ∈ ps.zip us, scope.names.lookup y.1 = some .local ∨ (scope.names.lookup y.1 = some .cell ∧ ((cellsFrom (s.heap.objs.size + 1) scope.names []).lookup y.1).isSome = true) := by
    rintro ⟨n, v⟩ hy
    have hn : n ∈ ps := (List.of_mem_zip hy).1
    exact (S.par n hn).imp (fun q => q) fun q => ⟨q, PySem.W.cellsFrom_some _ _ _ (.inl q)⟩
  refine codeAny_call_function hr.room.depth (KX _ _ lk) rfl S.co S.gen rfl (PySem.W.codeRec_of KX hcd) (hb _ _ _ _ ?_)
  refine wpAny_newFunctionEnv_cells S.kind kinds fun env he s1 x => ?_
  cases he
  refine ⟨nl.keeps x.toInCall.keep, codeAny_func ?_⟩
  have I := inv_start (CX := L2.CX P w) (E := E) S hr.room.hd e0 hl r x
  obtain ⟨bt', nx', hq⟩ := wy.run of nx so ra po
  have tk : Takes (cxOf (L2.CX P w) P w K mg base N qual scope f cdv A outer s H E) (fun cls d _ H' => E cls d H') := takes_of rfl rfl rfl rfl
  have ht := hbody (cxOf (L2.CX P w) P w K mg base N qual scope f cdv A outer s H E) bt' (fun cls d _ H' => E cls d H') rfl rfl rfl rfl rfl rfl rfl rfl (fun _ => rfl) ⟨rfl, rfl⟩ ⟨hr.room.deeper _, by first | exact hr.grd | (simpa [Around.deeper] using hr.grd)⟩ tk (passes_of rfl) nx'
  refine wpAny_mono (ht.run [] s1 (L2.start N vs) H _ I hq) (fun fl s' hs => ?_) fun _ _ hs => hs
  cases fl with
  | next => obtain ⟨σ', H', J, q⟩ := hs; exact ⟨.non, H', J.os, J.bare, J.base, J.hok, rfl, q⟩
  | ret u => obtain ⟨v, σ', H', J, rv, q⟩ := hs; exact ⟨v, H', J.os, J.bare, J.base, J.hok, rv, q⟩
  | brk => obtain ⟨_, _, _, q⟩ := hs; exact q.elim
  | cont => obtain ⟨_, _, _, q⟩ := hs; exact q.elim
/-- the module's name x is a def of n parameters that does M -/
def FnT (P : Program) (w : World) (K : PySem.W.Frag) (mg : Str → Option Value) (base : Heap) (k : Nat) (x : Str) (n : Nat) (M : MF) : Prop :=
  ∃ f fd ps, mg x = some (.ref f) ∧ PySem.W.keepIn K (.ref f) = true ∧ Binds K fd ps [] ∧ ps.length = n ∧ FnG P w K mg base k f fd ps M
theorem FnT.mono {P : Program} {w : World} {K : PySem.W.Frag} {mg : Str → Option Value} {base : Heap} {j k n : Nat} {x : Str} {M : MF} (F : FnT P w K mg base j x n M) (h : j ≤ k) : FnT P w K mg base k x n M :=
  let ⟨f, fd, ps, h1, h2, h3, h4, h5⟩ := F
  ⟨f, fd, ps, h1, h2, h3, h4, h5.mono h⟩
section
variable {X : Cx} {bt : Bx} {W : WX} {N : List Str} {sc : Scope}
theorem kpx_nx {c : RC} {H : Hp} : Kpx c H c.nx H := ⟨rfl, rfl, fun _ h _ => h, fun _ _ h _ _ => h, fun _ _ h => h, fun _ _ _ h => h⟩
/-- no error that is handled is handed on -/
def noXc : List Vl → Bool
  | [] => true
  | .xcp _ :: _ => false
  | .d _ :: r => noXc r
  | .ref _ :: r => noXc r
def eFn (n : Nat) (M : MF) (fa : MA) : ME := fun en s => (fa en s).bind fun as s1 => if as.length = n ∧ noXc as = true then M as s1 else .bad
theorem RepVs.nx {c : RC} {H : Hp} : ∀ {as : List Vl} {vs : List V}, RepVs c H as vs → noXc as = true → RepVs c.nx H as vs
  | _, _, .nil, _ => .nil
  | .d x :: r, _, .cons h t, e => by
    cases h with | d h =>
    exact .cons (.d (Rep.kp kpx_nx _ _ h)) (RepVs.nx t e)
  | .ref x :: r, _, .cons h t, e => by
    cases h with | ref h =>
    exact .cons (.ref h) (RepVs.nx t e)
  | .xcp x :: r, _, .cons h t, e => by cases e
theorem post_nx {c : RC} {H : Hp} {σ : L2.St} {Q : VK} {o : Out Vl} (h : PostG RepV c W H σ Q o) : PostG RepV c.nx (fun cls d _ H' => WE W σ cls d H') H [] Q o := by
  have back : ∀ {c' : RC} {H' : Hp} {s : Sto}, Ext c.nx H c' H' → SOk c' H' s → ∃ c2, Ext c H c2 H' ∧ SOk c2 H' s ∧ Kpx c' H' c2 H' ∧ c2.ph = c'.ph ∧ c'.bt.xc = none := fun {c' H' s} e so => by
    obtain ⟨l, rfl, hl⟩ := e.pre
    have kb : Kpx (c.nx.up l) H' (c.up l) H' := ⟨rfl, rfl, fun _ h _ => h, fun _ _ h _ _ => h, fun _ _ h => h, fun _ _ _ h => h⟩
    exact ⟨c.up l, ⟨⟨l, rfl, hl⟩, e.live, e.same, e.tups, e.frzs⟩, so.kp kb rfl so.lvb fun _ _ _ h _ => h, kb, rfl, rfl⟩
  cases o with
  | ok x s =>
    intro c' H' v e so r
    obtain ⟨c2, b1, b2, b3, b4, b5⟩ := back e so
    refine h c2 H' v b1 b2 ?_
    cases r with
    | d r => exact .d (Rep.kp b3 _ _ r)
    | ref r => exact .ref (by rw [b4]; exact r)
    | xcp r _ => rw [b5] at r; cases r
  | exc k l s =>
    intro c' H' C dd hk e so x
    obtain ⟨c2, b1, b2, b3, b4, b5⟩ := back e so
    exact h c2 H' C dd hk b1 b2 (x.kp b3)
  | bad => exact h
theorem eFn_run {k : Nat} {f : Addr} {fd : FuncData} {ps : List Str} {M : MF} (F : FnG X.prog X.w X.K X.mg X.base k f fd ps M) (at_ : AtCall k X.A) (tk : Takes X W) (hb : Binds X.K fd ps []) {pins : List (Addr × Obj)} {σ : L2.St} {H : Hp} {s : Shared} {Q : VK} {us : List Value} {vs : List V} {c : RC} {S : Sto} {as : List Vl}
    (I : Inv X pins σ H s) (r : Vals vs us) (of : Of X.K X.mg bt c) (so : SOk c H S) (ra : RepVs c H as vs) (hl : as.length = ps.length) (hx : noXc as = true) (po : PostG RepV c W H σ Q (M as S)) : wpAny (model X.prog X.w) X.A (call (.ref f) us) (EP X pins σ Q) X.xe s := by
  have hv : vs.length = ps.length := by rw [← ra.length]; exact hl
  have b := hb s us I.kIn (by rw [List.append_nil, ← r.length]; exact hv)
  rw [List.append_nil] at b
  refine wpAny_call (codeAny_mono (F.run X.A X.stack s H ⟨us, []⟩ us vs Q (WE W σ) { l := bt.l } c.nx S as at_ I.env0 b r hv ⟨of.K, of.mg, by rw [← of.bt]; rfl⟩ rfl (so.kp kpx_nx rfl so.lvb fun _ _ _ h _ => h) (ra.nx hx) (post_nx po)) fun fr s' hq => ?_)
  match fr, hq with
  | .error e, hq => exact passAt tk σ pins H s e s' I hq
  | .ok (.ret u), hq => exact I.after hq
  | .ok .next, hq => exact hq.elim
  | .ok .brk, hq => exact hq.elim
  | .ok .cont, hq => exact hq.elim
theorem se_fn (h : Here X N sc) {k n : Nat} {x : Str} {M : MF} {e : Expr} {es : List Expr} {fa : MA} {p pos : Pos} (F : FnT X.prog X.w X.K X.mg X.base k x n M) (at_ : AtCall k X.A) (tk : Takes X W) (ha : SA X bt W (e :: es) fa) (hg : gloB sc x = true := by kernel_rfl)
    (he : starEach (e :: es) X.env = (false, eval e X.env) :: starEach es X.env := by rfl) (hpl : (backTo pos (starEach es X.env)).any (·.1) = false := by rfl) : SE X bt W (.Call (.Name x p) (e :: es) [] pos) (eFn n M fa) := by
  obtain ⟨f, fd, ps, hm, hk, hb, hn, F⟩ := F
  obtain ⟨g1, g2, g3⟩ := gloB_ok h.sc hg
  refine ⟨fun pins s σ H Q I hw => ?_⟩
  obtain ⟨c, en, S, of, so, eo, po⟩ := hw
  have hA : tG RepVs X.K X.mg bt fa W σ H fun vs H1 => ∃ c S as, Of X.K X.mg bt c ∧ SOk c H1 S ∧ RepVs c H1 as vs ∧ as.length = ps.length ∧ noXc as = true ∧ PostG RepV c W H1 σ Q (M as S) :=
    ⟨c, en, S, of, so, eo, po.bind fun as s1 c1 H1 vs e1 so1 r1 po1 => by
      split at po1
      · rename_i hz
        exact ⟨c1, s1, as, e1.of of, so1, r1, by rw [hn]; exact hz.1, hz.2, po1⟩
      · exact po1.elim⟩
  refine wpAny_Call_Name_kw (ld_glob I g1 hm ?_ g2)
  refine PySem.W.callWith_K (h₀ := X.base) I.ok.mod.kin hk (thn (ha.run pos pins s σ H _ I hA) fun us s1 ⟨vs, H1, I1, r, c1, S1, as, of1, so1, ra, hl, hx, po1⟩ => ⟨I1.kIn, ?_⟩) he hpl
  exact eFn_run F at_ tk hb I1 r of1 so1 ra hl hx po1
theorem se_fn0 (h : Here X N sc) {k : Nat} {x : Str} {M : MF} {p pos : Pos} (F : FnT X.prog X.w X.K X.mg X.base k x 0 M) (at_ : AtCall k X.A) (tk : Takes X W) (hg : gloB sc x = true := by kernel_rfl) : SE X bt W (.Call (.Name x p) [] [] pos) (eFn 0 M aNil) := by
  obtain ⟨f, fd, ps, hm, hk, hb, hn, F⟩ := F
  obtain ⟨g1, g2, g3⟩ := gloB_ok h.sc hg
  refine ⟨fun pins s σ H Q I hw => ?_⟩
  obtain ⟨c, en, S, of, so, eo, po⟩ := hw
  refine wpAny_Call_Name_kw (ld_glob I g1 hm ?_ g2)
  exact PySem.W.callWith_K0 I.kIn hk (eFn_run (as := []) (us := []) F at_ tk hb I .nil of so .nil (by rw [hn]; rfl) rfl po)
/-- a call of what a name holds: the defs that may stand there -/
abbrev TabF := Str → Option (Nat × MF)
def TabOk (P : Program) (w : World) (K : PySem.W.Frag) (mg : Str → Option Value) (base : Heap) (k : Nat) (T : TabF) : Prop := ∀ x n M, T x = some (n, M) → FnT P w K mg base k x n M
def eFnV (i : Nat) (T : TabF) (fa : MA) : ME := fun en s => match en[i]? with
  | some (some (.d (.glo x))) => match T x with
    | some (n, M) => eFn n M fa en s
    | none => .bad
  | _ => .bad
theorem se_fnV (h : Here X N sc) {k : Nat} (i : Nat) {x : Str} {T : TabF} {e : Expr} {es : List Expr} {fa : MA} {p pos : Pos} (hT : TabOk X.prog X.w X.K X.mg X.base k T) (at_ : AtCall k X.A) (tk : Takes X W) (ha : SA X bt W (e :: es) fa) (hi : N[i]? = some x := by rfl) (hv : visB sc x = true := by kernel_rfl)
    (he : starEach (e :: es) X.env = (false, eval e X.env) :: starEach es X.env := by rfl) (hpl : (backTo pos (starEach es X.env)).any (·.1) = false := by rfl) : SE X bt W (.Call (.Name x p) (e :: es) [] pos) (eFnV i T fa) := by
  obtain ⟨v0, d1, d2⟩ := visB_ok hv
  refine ⟨fun pins s σ H Q I hw => ?_⟩
  obtain ⟨c, en, S, of, so, eo, po⟩ := hw
  unfold eFnV at po
  split at po
  · rename_i y hy
    split at po
    · rename_i n M hT'
      obtain ⟨f, fd, ps, hm, hk, hb, hn, F⟩ := hT _ _ _ hT'
      obtain ⟨v, e1, rv⟩ := eo.at_ i _ hy
      cases rv with | d rv =>
      cases rv with | glo g =>
      rw [of.mg] at g
      rw [hm] at g
      cases g
      have hA : tG RepVs X.K X.mg bt fa W σ H fun vs H1 => ∃ c S as, Of X.K X.mg bt c ∧ SOk c H1 S ∧ RepVs c H1 as vs ∧ as.length = ps.length ∧ noXc as = true ∧ PostG RepV c W H1 σ Q (M as S) :=
        ⟨c, en, S, of, so, eo, PostG.bind po fun as s1 c1 H1 vs e1 so1 r1 po1 => by
          split at po1
          · rename_i hz
            exact ⟨c1, s1, as, e1.of of, so1, r1, by rw [hn]; exact hz.1, hz.2, po1⟩
          · exact po1.elim⟩
      refine wpAny_Call_Name_kw (thn ((pe_var (pos := p) (i := i) (by rw [h.N]; exact hi) (by rw [h.sc]; exact v0) d1 d2).run pins s σ H (fun z H1 => z = .ref f ∧ H1 = H) I ⟨_, e1, rfl, rfl⟩) fun u s1 ⟨z, H1, I1, r1, ez, eH⟩ => ?_)
      subst ez
      rw [eH] at I1
      cases r1
      refine PySem.W.callWith_K (h₀ := X.base) I.ok.mod.kin hk (thn (ha.run pos pins s1 σ H _ I1 hA) fun us s2 ⟨vs, H2, I2, r, c1, S1, as, of1, so1, ra, hl, hx, po1⟩ => ⟨I2.kIn, ?_⟩) he hpl
      exact eFn_run F at_ tk hb I2 r of1 so1 ra hl hx po1
    · exact po.elim
  · exact po.elim
end
end Sm
set_option Elab.async false
set_option linter.all false
set_option maxRecDepth 100000
set_option maxHeartbeats 4000000
namespace Sm
open PySem PySem.Spec PyProof.Rows L2

section
variable {X : Cx} {bt : Bx} {W : WX} {N : List Str} {sc : Scope}
/-! ## -x -/
def negV : Vl → Option Vl
  | .d (.int i) => some (.d (.int (-i)))
  | _ => none
theorem unr_neg : UnR X (unaryOp .USub) (rUn X.K X.mg bt negV) := fun pins s σ H x v Q I r h => by
  refine un_neg pins s σ H x v Q I r ?_
  obtain ⟨c, S, a, z, of, so, ra, hg, k⟩ := h
  unfold negV at hg
  split at hg
  · cases hg
    cases ra with | d ra =>
    cases ra
    exact ⟨_, rfl, k H _ (.refl _ _) so (.d (.int _))⟩
  · cases hg
/-! ## methods of texts -/
def isS : Vl → Bool
  | .d (.str _) => true
  | _ => false
def eM1 (g : G2) (fo fe : ME) : ME := fun en s => (fo en s).bind fun x s1 => if isS x = true then (fe en s1).bind fun y s2 => ofO (g s2 x y) s2 else .bad
theorem m1_tG {g : G2} {fo fe : ME} {r : V → List V → Hp → VK → Prop} (w : ∀ x y H Q, rOp X.K X.mg bt g x y H Q → r x [y] H Q) {σ : L2.St} {H : Hp} {Q : VK} (h : tG RepV X.K X.mg bt (eM1 g fo fe) W σ H Q) :
    tM1 r (tG RepV X.K X.mg bt fo W) (tG RepV X.K X.mg bt fe W) σ H Q := by
  obtain ⟨c, en, s, of, so, eo, po⟩ := h
  refine ⟨c, en, s, of, so, eo, po.bind fun a s1 c1 H1 v e1 so1 r1 po1 => ?_⟩
  split at po1
  · rename_i hs
    refine ⟨?_, ?_⟩
    · unfold isS at hs
      split at hs
      · cases r1 with | d r1 =>
        cases r1
        exact ⟨_, rfl⟩
      · cases hs
    · refine ⟨c1, en, s1, e1.of of, so1, eo.mono e1, po1.bind fun b s2 c2 H2 w' e2 so2 r2 po2 => ?_⟩
      obtain ⟨z, hz, q⟩ := po2.ofO
      exact w _ _ _ _ ⟨c2, s2, a, b, z, e2.of (e1.of of), so2, r1.mono e2, r2, hz, fun H' z e so' rz => q c2 H' z e so' rz⟩
  · exact po1.elim
def splitV : G2 := fun _ a b => match a, b with
  | .d (.str x), .d (.str y) => if (y.length == 0) = false ∧ x.length + 2 ≤ sizeLine then some (.d (.lst ((Txt.split x y).map .str))) else none
  | _, _ => none
theorem reps_strs {c : RC} {H : Hp} : ∀ l : List Str, Reps c H (l.map .str) (l.map V.str)
  | [] => .nil
  | x :: l => .cons (.str x) (reps_strs l)
theorem se_split {o e : Expr} {fo fe : ME} {ap p : Pos} (ho : SE X bt W o fo) (he : SE X bt W e fe) (hs : starEach [e] X.env = [(false, eval e X.env)] := by rfl) (hb : attributeBase o "split" X.env (eval o X.env) = eval o X.env := by rfl) (hl : (ap.endLine == p.line) = true := by rfl) :
    SE X bt W (.Call (.Attribute o "split" ap) [e] [] p) (eM1 splitV fo fe) := PE.weak (pe_split ho he hs hb hl) fun σ H Q h => m1_tG (fun x y H Q hh => by
  obtain ⟨c, S, a, b, r, of, so, ra, rb, hg, k⟩ := hh
  unfold splitV at hg
  split at hg
  · split at hg
    · cases hg
      rename_i h1
      cases ra with | d ra => cases rb with | d rb =>
      cases ra
      cases rb
      exact ⟨_, _, rfl, rfl, h1.1, h1.2, fun p hp => k _ _ (.fresh hp) (so.fresh hp) (new_lst so hp (reps_strs _))⟩
    · cases hg
  · cases hg) h
def strOf : D → Option Str
  | .str x => some x
  | _ => none
def strsOf : List D → Option (List Str)
  | [] => some []
  | d :: r => match strOf d, strsOf r with
    | some x, some l => some (x :: l)
    | _, _ => none
theorem strsOf_ok {c : RC} {H : Hp} : ∀ {l : List D} {ys : List Str} {xs : List V}, Reps c H l xs → strsOf l = some ys → xs = ys.map V.str
  | [], _, _, h, e => by cases h; cases e; rfl
  | d :: r, _, _, h, e => by
    cases h with | cons h t =>
    unfold strsOf at e
    split at e
    · cases e
      rename_i h1 h2
      cases d <;> first | (cases h1; done) | skip
      cases h1
      cases h
      rw [List.map_cons, strsOf_ok t h2]
    · cases e
def joinV : G2 := fun s a b => match a, asSeq s b with
  | .d (.str x), some l => match strsOf l with
    | some ys => if (ys.map (·.length)).sum + ys.length * x.length ≤ 16777216 then some (.d (.str (Txt.join x ys))) else none
    | none => none
  | _, _ => none
theorem se_join {o e : Expr} {fo fe : ME} {ap p : Pos} (ho : SE X bt W o fo) (he : SE X bt W e fe) (hs : starEach [e] X.env = [(false, eval e X.env)] := by rfl) (hb : attributeBase o "join" X.env (eval o X.env) = eval o X.env := by rfl) (hl : (ap.endLine == p.line) = true := by rfl) :
    SE X bt W (.Call (.Attribute o "join" ap) [e] [] p) (eM1 joinV fo fe) := PE.weak (pe_join ho he hs hb hl) fun σ H Q h => m1_tG (fun x y H Q hh => by
  obtain ⟨c, S, a, b, r, of, so, ra, rb, hg, k⟩ := hh
  unfold joinV at hg
  split at hg
  · split at hg
    · split at hg
      · cases hg
        rename_i e1 _ _ e2 h1
        cases ra with | d ra =>
        cases ra
        obtain ⟨p, xs, rfl, rp, q⟩ := asSeq_ok so rb e1
        rw [of.K, strsOf_ok rp e2] at q
        exact ⟨_, p, _, rfl, rfl, q, h1, k H _ (.refl _ _) so (.d (.str _))⟩
      · cases hg
    · cases hg
  · cases hg) h
/-! ## f-strings -/
def fmtV : Vl → Option Str
  | .d (.str y) => if y.length ≤ sizeLine then some y else none
  | .d (.int i) => if i.natAbs.log2 < 1920 then some (toString i) else none
  | _ => none
def eFmt (f : ME) : ME := fun en s => (f en s).bind fun x s1 => match fmtV x with
  | some y => .ok (.d (.str y)) s1
  | none => .bad
theorem se_fmt {e : Expr} {f : ME} {p : Pos} (h : SE X bt W e f) : SE X bt W (.FormattedValue e (-1) none p) (eFmt f) := PE.weak (pe_fmt h) fun σ H Q => by
  rintro ⟨c, en, s, of, so, eo, po⟩
  refine ⟨c, en, s, of, so, eo, po.bind fun a s1 c1 H1 v e1 so1 r1 po1 => ?_⟩
  split at po1
  · rename_i y hy
    unfold fmtV at hy
    split at hy
    · split at hy
      · cases hy
        cases r1 with | d r1 =>
        cases r1
        exact .inl ⟨_, rfl, by assumption, po1 c1 H1 _ (.refl _ _) so1 (.d (.str _))⟩
      · cases hy
    · split at hy
      · cases hy
        cases r1 with | d r1 =>
        cases r1
        exact .inr ⟨_, rfl, by assumption, po1 c1 H1 _ (.refl _ _) so1 (.d (.str _))⟩
      · cases hy
    · cases hy
  · exact po1.elim
inductive SJ (X : Cx) (bt : Bx) (W : WX) : List Expr → List ME → Prop
  | nil : SJ X bt W [] []
  | cons {e : Expr} {es : List Expr} {f : ME} {fs : List ME} : SE X bt W e f → SJ X bt W es fs → SJ X bt W (e :: es) (f :: fs)
def jsGo : List ME → Str → En → Sto → Out Str
  | [], acc, _, s => .ok acc s
  | f :: fs, acc, en, s => (f en s).bind fun x s1 => match x with
    | .d (.str y) => if (acc ++ y).length ≤ sizeLine then jsGo fs (acc ++ y) en s1 else .bad
    | _ => .bad
def eJs (fs : List ME) : ME := fun en s => (jsGo fs Str.empty en s).bind fun y s1 => .ok (.d (.str y)) s1
theorem SJ.pj {es : List Expr} {fs : List ME} (h : SJ X bt W es fs) : PJ X es (fs.map fun f => tG RepV X.K X.mg bt f W) := by
  induction h with
  | nil => exact .nil
  | cons h t ih => exact .cons h ih
theorem js_t {σ : L2.St} {R : Str → Hp → Prop} : ∀ (fs : List ME) (acc : Str) (en : En) (s : Sto) (c : RC) (H : Hp), Of X.K X.mg bt c → SOk c H s → EnOk c H en σ → PostG (fun _ _ (a b : Str) => a = b) c W H σ R (jsGo fs acc en s) → tJs (fs.map fun f => tG RepV X.K X.mg bt f W) acc σ H R
  | [], acc, en, s, c, H, of, so, eo, po => po c H acc (.refl _ _) so rfl
  | f :: fs, acc, en, s, c, H, of, so, eo, po => by
    refine ⟨c, en, s, of, so, eo, PostG.bind po fun a s1 c1 H1 v e1 so1 r1 po1 => ?_⟩
    split at po1
    · split at po1
      · cases r1 with | d r1 =>
        cases r1
        exact ⟨_, rfl, by assumption, js_t fs _ en s1 c1 H1 (e1.of of) so1 (eo.mono e1) po1⟩
      · exact po1.elim
    · exact po1.elim
theorem se_js {v1 v2 : Expr} {rest : List Expr} {fs : List ME} {p : Pos} (h : SJ X bt W (v1 :: v2 :: rest) fs) : SE X bt W (.JoinedStr (v1 :: v2 :: rest) p) (eJs fs) := PE.weak (pe_joined h.pj) fun σ H Q => by
  rintro ⟨c, en, s, of, so, eo, po⟩
  exact js_t fs Str.empty en s c H of so eo (PostG.bind po fun a s1 c1 H1 v e1 so1 r1 po1 => by
    subst r1
    exact po1 c1 H1 _ (.refl _ _) so1 (.d (.str _)))
theorem se_js1 {e : Expr} {f : ME} {p : Pos} (h : SE X bt W e f) : SE X bt W (.JoinedStr [e] p) f := pe_joined1 h
/-! ## isinstance -/
def tyN : Vl → Option String
  | .d .non => some "NoneType"
  | .d (.bl _) => some "bool"
  | .d (.int _) => some "int"
  | .d (.str _) => some "str"
  | .d (.tup _) => some "tuple"
  | .d (.lst _) => some "list"
  | .d (.scr _) => some "list"
  | .d (.dic _) => some "dict"
  | .d (.dit _) => some "dict"
  | _ => none
theorem tyN_ok {c : RC} {H : Hp} {a : Vl} {x : V} {t : String} (r : RepV c H a x) (h : tyN a = some t) : TyX c.K H x (.type t) := by
  cases r with
  | ref r => cases h
  | xcp _ _ => cases h
  | d r =>
    cases r with
    | non => cases h; exact .base .non
    | bl b => cases h; exact .base (.bl b)
    | int i => cases h; exact .base (.int i)
    | str i => cases h; exact .base (.str i)
    | tup h1 _ =>
      cases h
      rcases h1 with (h1 | ⟨o, h1⟩) | ⟨o, its, n, h1, h2, _⟩
      · exact .base (.tup h1)
      · exact .fTuple h1
      · exact .kTuple h1 h2
    | lst h1 _ _ => cases h; exact .base (.lst h1)
    | glo _ => cases h
    | bty _ => cases h
    | obj _ _ _ _ => cases h
    | dic h1 _ _ => cases h; exact .base (.dK h1)
    | dit h1 _ _ => cases h; exact .base (.dT h1)
    | scr h1 =>
      cases h
      rcases h1 with ⟨o, h1⟩ | ⟨o, its, n, h1, h2, _⟩
      · exact .base (.frz h1)
      · exact .kList h1 h2
def tySub (t T : String) : Bool := t == T || (t == "bool" && T == "int")
def tysB : List String := ["NoneType", "bool", "int", "str", "tuple", "list", "dict"]
def isiB : GC := fun _ as => match as with
  | [a, .d (.bty T)] => match tyN a with
    | some t => if tysB.contains t = true ∧ tysB.contains T = true then some (.d (.bl (tySub t T))) else none
    | none => none
  | _ => none
theorem kit_ty (K : PySem.W.Frag) : ∀ t ∈ tysB, ∀ T ∈ tysB, PySem.W.kitOne K (.type t) (.type T) = some (tySub t T) := by
  intro t ht T hT
  simp only [tysB, List.mem_cons, List.mem_nil_iff, or_false] at ht hT
  rcases ht with rfl | rfl | rfl | rfl | rfl | rfl | rfl <;> rcases hT with rfl | rfl | rfl | rfl | rfl | rfl | rfl <;> kernel_rfl
theorem clr_isi : Clr X bt (.builtin "isinstance") isiB := .of call_isi fun xs H Q h => by
  obtain ⟨c, S, as, r, of, so, ra, hg, k⟩ := h
  unfold isiB at hg
  split at hg
  · split at hg
    · split at hg
      · cases hg
        rename_i e h1
        obtain ⟨x, y, rfl, rx, ry⟩ := ra.two
        cases ry with | d ry =>
        cases ry
        exact ⟨x, _, _, _, _, rfl, .ty _, of.K ▸ tyN_ok rx e, kit_ty _ _ (by simpa using h1.1) _ (by simpa using h1.2), k H _ (.refl _ _) so (.d (.bl _))⟩
      · cases hg
    · cases hg
  · cases hg
/-! ## repr -/
def repV : GC := fun s as => match as with
  | [.d (.int i)] => if i.natAbs.log2 < 1920 then some (.d (.str (toString i))) else none
  | [a] => match pyOf s a with
    | some d => match d with
      | .list _ => if d.showable = true ∧ d.hasDict = false ∧ d.depth ≤ 64 ∧ d.shown.length ≤ sizeLine then some (.d (.str d.shown)) else none
      | .tuple _ => if d.showable = true ∧ d.hasDict = false ∧ d.depth ≤ 64 ∧ d.shown.length ≤ sizeLine then some (.d (.str d.shown)) else none
      | _ => none
    | none => none
  | _ => none
theorem repr_run {pins : List (Addr × Obj)} {s : Shared} {σ : L2.St} {H : Hp} {x : V} {u : Value} {d : PyData} {Q : VK} {a : Addr} (hg : X.A.guards = some []) (hu : X.A.units + 66 < cLine) (I : Inv X pins σ H s) (r : RelV x u) (hx : x = .ref a) (h : Dp X.K H x d)
    (hs : d.showable = true) (hd : d.hasDict = false) (hp : d.depth ≤ 64) (hz : d.shown.length ≤ sizeLine) (q : Q (.str d.shown) H) : wpAny (model X.prog X.w) X.A (call (.builtin "repr") [u]) (EP X pins σ Q) X.xe s := by
  subst hx
  obtain ⟨as, rd⟩ := Dp.reads I d _ u h r
  cases r
  refine repr_of_reads' rd hs (fun z => by rw [hd] at z; cases z) hg (by omega) (fun _ _ e => e) (fun h' t tk k => ?_) hz
  exact ⟨.str d.shown, H, I.kept k, ⟨_, rfl⟩, q⟩
theorem clr_repr (hg : X.A.guards = some []) (hu : X.A.units + 66 < cLine) : Clr X bt (.builtin "repr") repV := by
  intro pins s σ H xs us Q I rs hh
  obtain ⟨c, S, as, r, of, so, ra, hg', k⟩ := hh
  unfold repV at hg'
  split at hg'
  · split at hg'
    · cases hg'
      rename_i hz
      obtain ⟨x, rfl, rx⟩ := ra.one
      cases rx with | d rx =>
      cases rx
      obtain ⟨u, rfl, t, rfl⟩ := vals1 rs
      exact PySem.P.repr_of_int hz ⟨.str _, H, I.tok _, ⟨_, rfl⟩, k H _ (.refl _ _) so (.d (.str _))⟩
    · cases hg'
  · split at hg'
    · rename_i e
      obtain ⟨x, rfl, rx⟩ := ra.one
      obtain ⟨u, rfl, ru⟩ := vals1 rs
      have dp := pyOf_ok so rx e
      rw [of.K] at dp
      split at hg'
      · split at hg'
        · cases hg'
          rename_i h1
          cases dp with
          | lst d1 d2 => exact repr_run hg hu I ru rfl (.lst d1 d2) h1.1 h1.2.1 h1.2.2.1 h1.2.2.2 (k H _ (.refl _ _) so (.d (.str _)))
        · cases hg'
      · split at hg'
        · cases hg'
          rename_i h1
          cases dp with
          | tup d1 d2 => exact repr_run hg hu I ru rfl (.tup d1 d2) h1.1 h1.2.1 h1.2.2.1 h1.2.2.2 (k H _ (.refl _ _) so (.d (.str _)))
        · cases hg'
      · cases hg'
    · cases hg'
  · cases hg'
/-! ## what is never come to -/
def sNo : MS := fun _ _ => .bad
theorem ss_no {st : Stmt} : SS X bt W st sNo := PS.weak ps_never fun E σ H => by
  rintro ⟨c, en, s, of, so, eo, po⟩
  exact po.elim
theorem Takes.WF (X : Cx) : Takes X WF := fun _ _ ⟨_, _, _, _, _, _, _, _, _, _, _, _, _, _, _, _, w⟩ => w.elim
end
end Sm
set_option Elab.async false
set_option linter.all false
set_option maxRecDepth 100000
set_option maxHeartbeats 4000000
namespace Sm
open PySem PySem.Spec PyProof.Rows L2

/-! ## a law's end, with what the caller's surroundings tell -/
theorem at_caller {k : Nat} (hr : Room k callerA) : AtCall k callerA := ⟨hr, rfl⟩
theorem law_end {P : Program} {w : World} {K : PySem.W.Frag} {mg mb : Str → Option Value} {k : Nat} {fa a : Addr} {fd : FuncData} {x : Str} {M : MF} {s₁ : Shared} {vs : List Value} {ns : List Int}
    (KX : K.In s₁.heap) (hns : s₁.heap.Ns mainGlobals mg) (hb : s₁.heap.Ns builtinsNs mb) (hbb : ∀ y : Str, y ≠ "__name__" → mb y = bootBuiltins y) (hlim : s₁.heap.NoLimit) (hg : s₁.gens = #[])
    (ha : s₁.heap.get? a = some { cls := .type "list", data := .seq vs.toArray }) (hi : IntsAre vs ns) (hl : ns.length ≤ sizeLine) (hr : Room k callerA)
    (F : ∀ base : Heap, K.In base → base.Ns mainGlobals mg → FnG P w K mg base k fa fd [x] M) (hbind : ∀ (s : Shared) (u : Value), BindsTo s fd ⟨[u], []⟩ [(x, u)]) (hM : ∃ S', M [.d (.scr ns)] [] = .ok (.d (.bl true)) S') :
    codeAny (model P w) callerA (.call (.ref fa) ⟨[.ref a], []⟩) (fun r s' => r = .ok (.ret (.bool true)) ∧ OldK s₁.heap s'.heap ∧ s'.os = s₁.os ∧ AllBare s'.gens) s₁ := by
  obtain ⟨S', hM⟩ := hM
  have rv := vals_ints hi
  have lenV := hi.length
  -- H: nothing but the script, if anything
  have go : ∀ H : Hp, (∀ b u, H b = some u → b = a ∧ K.lookup a = none ∧ u = .frz { cls := .type "list", data := .seq vs.toArray } (.lst (ns.map V.int))) → ScrAt K H a (ns.map V.int) → HOk P w H s₁.heap →
      codeAny (model P w) callerA (.call (.ref fa) ⟨[.ref a], []⟩) (fun r s' => r = .ok (.ret (.bool true)) ∧ OldK s₁.heap s'.heap ∧ s'.os = s₁.os ∧ AllBare s'.gens) s₁ := by
    intro H hH hS hok
    have dicts : ∀ {b : Addr} {o : Obj} {es : Array DictEntry} {ep : Nat}, s₁.heap.get? b = some o → o.data = .dict es ep → H b = none := fun {b o es ep} e d => by
      cases q : H b with
      | none => rfl
      | some u =>
        obtain ⟨rfl, _, _⟩ := hH b u q
        rw [ha] at e
        cases e
        cases (show Data.seq vs.toArray _ = Data.dict es ep from d)
    have ns' : ∀ {b : Addr} {m : Str → Option Value}, s₁.heap.Ns b m → (hidT s₁.heap H).Ns b m := fun {b m} ⟨o, es, ep, e, d, r⟩ => ⟨o, es, ep, hidT_get e (dicts e d), d, r⟩
    have kin : K.In (hidT s₁.heap H) := fun b o e => hidT_get (KX b o e) (by
      cases q : H b with
      | none => rfl
      | some u =>
        obtain ⟨rfl, hk, _⟩ := hH b u q
        rw [hk] at e
        cases e)
    obtain ⟨mc, l1, l2⟩ := hlim
    have md : Mod K mg (hidT s₁.heap H) := ⟨kin, ns' hns, ⟨mb, ns' hb, hbb⟩, ⟨mc, ns' l1, l2⟩⟩
    have en : Env0 P w K mg (hidT s₁.heap H) callerA [] s₁ H := ⟨rfl, md, fun b o e => of_hidT e, Nat.le_of_eq (hidT_size _ _), trivial, (fun b z => nomatch z), hok, .of_eq hg⟩
    let c : RC := ⟨K, mg, [], { l := [] }⟩
    have so : SOk c H [] := ⟨rfl, .nil, (fun _ z => nomatch z), fun n y b e => nomatch e⟩
    refine codeAny_mono ((F _ kin (ns' hns)).run callerA [] s₁ H ⟨[.ref a], []⟩ [.ref a] [.ref a] (fun v _ => v = .bl true) (fun _ _ _ => False) { l := [] } c [] [.d (.scr ns)] (at_caller hr) en (hbind s₁ (.ref a)) (.cons rfl .nil) rfl ⟨rfl, rfl, rfl⟩ rfl so
      (.cons (.d (.scr hS)) .nil) (by rw [hM]; exact fun c' H' v _ _ r => by cases r with | d r => cases r; rfl)) fun r s' h => ?_
    match r, h with
    | .error e, h => obtain ⟨_, _, _, _, _, _, _, _, _, _, _, _, z⟩ := h; exact z.elim
    | .ok .next, h => exact h.elim
    | .ok .brk, h => exact h.elim
    | .ok .cont, h => exact h.elim
    | .ok (.ret u), h =>
      obtain ⟨v, H', os, bare, un, hok', r', q⟩ := h
      subst q
      cases (show u = Value.bool true from r')
      refine ⟨rfl, OldK.of_keep fun b o e => ?_, os, bare⟩
      cases q : H b with
      | none => exact un.keep b o e q (fun z => nomatch z) (fun z => nomatch z)
      | some u =>
        obtain ⟨_, _, rfl⟩ := hH b u q
        obtain ⟨e1, _⟩ := hok b _ q
        obtain ⟨e2, _⟩ := hok' b _ (un.frzs b _ _ q)
        rw [e] at e1
        cases e1
        exact e2
  cases hk : K.lookup a with
  | some o =>
    have e := KX a o hk
    rw [ha] at e
    cases e
    exact go (fun _ => none) (fun b u z => nomatch z) (.inr ⟨_, vs.toArray, _, hk, rfl, rfl, rfl, by rw [List.size_toArray, lenV]; exact hl, by simpa using rv⟩) (fun b u z => nomatch z)
  | none =>
    refine go (fun b => if b = a then some (.frz { cls := .type "list", data := .seq vs.toArray } (.lst (ns.map V.int))) else none) (fun b u z => ?_) (.inl ⟨_, if_pos rfl⟩) (fun b u z => ?_)
    · split at z
      · cases z
        exact ⟨by assumption, hk, rfl⟩
      · cases z
    · have z : (if b = a then _ else none) = some u := z
      split at z
      · cases z
        rename_i hb'
        subst hb'
        exact ⟨ha, by rw [List.length_map]; exact hl, vs, _, rv, ha⟩
      · cases z
/-- a law over a head by facts -/
theorem walk_ofG {l : PySem.W.OpenLaw} {n k : Nat} {q : Program} {loose : List Str} {XP : (Str → Option Value) → Heap → Prop} {YP : World → Heap → Prop} {d : DefRec} {x : Str} (hn : l.most = some n) (hn2 : n ≤ sizeLine) (hdf : d.params.defaults = []) (hr : Room k callerA)
    (F : ∀ (w : World) (mg : Str → Option Value) (fa : Addr) (h : Heap), YP w h → h.Ns mainGlobals mg → mg d.name = some (.ref fa) →
      ∃ (K : PySem.W.Frag) (fd : FuncData) (M : MF), K.In h ∧ (∀ (s : Shared) (u : Value), BindsTo s fd ⟨[u], []⟩ [(x, u)]) ∧ (∀ ns : List Int, ns.length ≤ n → ∃ S', M [.d (.scr ns)] [] = .ok (.d (.bl true)) S') ∧
        ∀ base : Heap, K.In base → base.Ns mainGlobals mg → FnG l.prog w K mg base k fa fd [x] M) :
    PySem.W.WalkO q loose XP YP l.row.toRowW d [] (fun f vs => PySem.call f vs) := by
  refine Att.attach_call hn hdf fun w s₀ s₁ mg mb fa o pm cd doc a vs ns G Y ho hd hcd hmg hobj hints hlen hg => ?_
  obtain ⟨K, fd, M, KX, hb, hM, hF⟩ := F w mg fa _ Y G.T.g hmg
  exact law_end KX G.T.g G.T.b G.T.builtins G.T.nolimit hg hobj hints (Nat.le_trans hlen hn2) hr hF hb (hM ns hlen)
end Sm
set_option Elab.async false
set_option linter.all false
set_option maxRecDepth 100000
set_option maxHeartbeats 4000000
namespace Sm
open PySem PySem.Spec PyProof.Rows L2

/-! ## try: clauses with and without a name -/
abbrev ClT := Value × Option Nat × (Addr → Value → Option Addr → TS)
def endD (oi : Option Nat) (D : Ends) : Ends := match oi with
  | none => D
  | some i => { nx := fun σ' H' => D.nx (σ'.set i none) H', rt := D.rt, bk := fun σ' H' => D.bk (σ'.set i none) H', ct := fun σ' H' => D.ct (σ'.set i none) H' }
def setO (oi : Option Nat) (σ : L2.St) (a : Addr) : L2.St := match oi with
  | none => σ
  | some i => σ.set i (some (.ref a))
def wMix (K : PySem.W.Frag) (Wout : WX) (D : Ends) : List ClT → WX
  | [] => Wout
  | (c, oi, ts) :: r => fun cls d σ H => ∃ b, PySem.W.exmOne K cls c = some b ∧ (b = true → ∀ a, H a = none → ts a cls d (endD oi D) (setO oi σ a) H) ∧ (b = false → wMix K Wout D r cls d σ H)
/-- the suite's name -/
def SlotAt (X : Cx) : Option Str → Option Nat → Prop
  | none, none => True
  | some n, some i => X.N[i]? = some n ∧ X.env.kindOf n = some .local
  | _, _ => False
inductive HdsM (X : Cx) : List ExceptHandler → List ClT → Prop
  | nil : HdsM X [] []
  | cons {x : Str} {on : Option Str} {c : Value} {oi : Option Nat} {ts : Addr → Value → Option Addr → TS} {b₀ : Stmt} {suite : List Stmt} {np pos' : Pos} {hds : List ExceptHandler} {l : List ClT} (hc : Names X x c) (hs : SlotAt X on oi)
      (hsu : ∀ (a : Addr) (oe : Obj) (cls : Value) (d : Option Addr) (pn : List (Addr × Obj)), Zc cls d oe → (∃ vs, oe.data = .fields vs) → PSs (X.suite a ((a, oe) :: pn)) (b₀ :: suite) (ts a cls d)) (r : HdsM X hds l) :
      HdsM X (.ExceptHandler (some (.Name x np)) on (b₀ :: suite) pos' :: hds) ((c, oi, ts) :: l)
section
variable {X : Cx} {body : List Stmt} {h₀ : ExceptHandler} {hds : List ExceptHandler} {l : List ClT} {pos : Pos} {tb : WX → TS} {Wout : WX}
theorem sp_try {pins : List (Addr × Obj)} {D : Ends} {fl : Flow} {s1 : Shared} {xe : Value → Shared → Prop} (ok : X.Ok) (q : SP (X.tr (X.pn ++ pins) xe) [] D fl s1) : SP X pins D fl s1 := by
  cases fl with
  | next => obtain ⟨σ, H, I, z⟩ := q; exact ⟨σ, H, I.ofTry ok, z⟩
  | brk => obtain ⟨σ, H, I, z⟩ := q; exact ⟨σ, H, I.ofTry ok, z⟩
  | cont => obtain ⟨σ, H, I, z⟩ := q; exact ⟨σ, H, I.ofTry ok, z⟩
  | ret u => obtain ⟨v, σ, H, I, r, z⟩ := q; exact ⟨v, σ, H, I.ofTry ok, r, z⟩
theorem ps_try_mix (stk : X.stack = X.env :: X.outer) (hf : X.env.frame = some X.env.locals) (nd : X.N.Nodup) (tk : Takes X Wout)
    (hb : ∀ (W : WX) (pn : List (Addr × Obj)) (xe : Value → Shared → Prop), Takes (X.tr pn xe) W → PassesOwn (model X.prog X.w) X.A X.env xe → PSs (X.tr pn xe) body (tb W))
    (hh : HdsM X (h₀ :: hds) l) : PS X (.Try body (h₀ :: hds) [] [] pos) (fun D σ H => tb (wMix X.K Wout D l) D σ H) := by
  refine ⟨fun pins s σ H D I h => ?_⟩
  have ok := I.ok
  have fr : X.A.frames = some (X.env :: X.outer) := ok.frames.trans (by rw [stk])
  refine wpAny_Try_except (wpAny_mono ((hb (wMix X.K Wout D l) (X.pn ++ pins) (fun e s₁ => wpAny (model X.prog X.w) X.A (noteFrame e X.env) (fun _ s₂ => wpAny (model X.prog X.w) X.A (setFlight e none) (fun _ s₃ => wpAny (model X.prog X.w) X.A (handleBy e X.env (h₀ :: hds)) (SP X pins D) X.xe s₃) X.xe s₂) X.xe s₁)
    (fun u s' caught => ?_) PassesOwn.looking).run [] s σ H D (I.toTry _) h) (fun fl s1 q => ?_) fun _ _ he => he)
  · obtain ⟨p, B, s0, pins', τ, G, cls, d, rfl, Jt, nb, up, sky, np, os, ag, wq⟩ := caught
    have J : Inv X pins τ G s0 := Jt.ofTry ok
    rw [show (X.tr (X.pn ++ pins) _).stack = X.env :: X.outer from stk] at sky
    show wpAny (model X.prog X.w) X.A (noteFrame (.ref p) X.env) _ _ _
    refine Sky.land Zc.steady fr hf sky fun g1 f1 u1 => ?_
    have K1 : Inv X pins τ G { s' with heap := g1 } := J.landed nb f1.1 (up.trans u1) os ag
    obtain ⟨oe1, vs1, e1, z1, d1⟩ := f1.there
    have out : p ∉ frs (X.env :: X.outer) := fun hm => by
      obtain ⟨_, o', e', nf⟩ := f1.2.2.1.mem hm
      rw [e1] at e'
      cases e'
      exact nf _ d1
    have pL : p ≠ X.env.locals := fun z => out (List.mem_filterMap.mpr ⟨X.env, List.mem_cons_self, by rw [hf, z]⟩)
    have pF : p ∉ X.fs := fun hm => by
      obtain ⟨e, he, q⟩ := List.mem_filterMap.mp hm
      exact out (List.mem_filterMap.mpr ⟨e, List.mem_cons_of_mem _ he, q⟩)
    have T1 := K1.suite e1 d1 np pL pF
    have walk : ∀ {hds' : List ExceptHandler} {l' : List ClT}, HdsM X hds' l' → wMix X.K Wout D l' cls d τ G → wpAny (model X.prog X.w) X.A (handleBy (.ref p) X.env hds') (SP X pins D) X.xe { s' with heap := g1 } := by
      intro hds' l' hk
      induction hk with
      | nil =>
        intro wq
        refine wpAny_handleBy_nil ?_
        obtain ⟨_, _, _, oe, vs, T, oT, tt, he, hz, hd, h1, hr⟩ := id f1
        unfold PySem.passOn
        refine wpAny_bind (wpAny_field he hd h1 ?_)
        rw [if_neg (show ¬ ((Value.ref T == Value.none) = true) by simp)]
        have last : wpAny (model X.prog X.w) X.A (setFlight (.ref p) X.env.frame) (fun _ s4 => wpAny (model X.prog X.w) X.A (throw (.ref p) : Sem Flow) (SP X pins D) X.xe s4) X.xe { s' with heap := g1 } := by
          rw [hf]
          refine HandSPX.setFlight_upZ f1 fun g2 hh2 u2 => wpAny_throw (tk _ _ ⟨p, B, s0, pins, τ, G, cls, d, rfl, J, nb, (up.trans u1).trans u2, .inr (.inr ?_), np, os, ag, wq⟩)
          rw [stk]
          exact hh2
        first
          | exact wpAny_bind (wpAny_pure (wpAny_bind last))
          | exact wpAny_bind last
      | @cons x on c oi ts b₀ suite q1 q2 hds2 l2 hc hs hsu r ih =>
        intro wq
        obtain ⟨b, hb1, yes, no⟩ := wq
        refine wpAny_handleBy_cons (codeAny_handlers_test ?_) (by intro z; cases z)
        have ty : PySem.W.Looks (model X.prog X.w) g1 (typeOf (.ref p)) cls := fun A Q E s k q => wpAny_typeOf_ref (k _ _ e1) (by rw [z1.1]; exact q)
        have ex := PySem.W.exm_one (M := model X.prog X.w) K1.kIn ty hb1
        have test : ∀ {Q : Value → Shared → Prop} {E : Value → Shared → Prop}, Q c { s' with heap := g1 } → wpAny (model X.prog X.w) (X.A.mark (some (.ref p))) (eval (.Name x q1) X.env) Q E { s' with heap := g1 } := fun {Q E} q => by
          obtain ⟨hg, hdbg, hm | ⟨hm, hv, hnn⟩⟩ := hc
          · exact ld_glob T1 hg hm q hdbg
          · exact ld_blt T1 hg hm hv q hnn hdbg
        refine test (ex.here ?_)
        cases b with
        | false =>
          show wpAny _ X.A (handleBy (.ref p) X.env hds2) _ _ _
          exact ih (no rfl)
        | true =>
          have yq := yes rfl p np
          match on, oi, hs with
          | none, none, _ =>
            refine codeAny_handlers_suite (HandSPX.lands_againZ f1 fun g2 f2 u2 => ?_)
            have J2 : Inv X pins τ G { s' with heap := g2 } := J.landed nb f2.1 ((up.trans u1).trans u2) os ag
            obtain ⟨oe2, vs2, e2, z2, d2⟩ := f2.there
            refine wpAny_mono ((hsu p oe2 cls d (X.pn ++ pins) z2 ⟨_, d2⟩).run [] _ _ G _ (J2.suite e2 d2 np pL pF) yq) (fun fl s6 q => ?_) (fun _ _ z => z.elim)
            cases fl with
            | next => obtain ⟨τ6, G6, S6, q6⟩ := q; exact ⟨_, _, S6.unsuite ok, q6⟩
            | brk => obtain ⟨τ6, G6, S6, q6⟩ := q; exact ⟨_, _, S6.unsuite ok, q6⟩
            | cont => obtain ⟨τ6, G6, S6, q6⟩ := q; exact ⟨_, _, S6.unsuite ok, q6⟩
            | ret u => obtain ⟨v6, τ6, G6, S6, r6, q6⟩ := q; exact ⟨_, _, _, S6.unsuite ok, r6, q6⟩
          | some n, some i, hs =>
            obtain ⟨hi, hln⟩ := hs
            refine codeAny_handlers_suite_as (HandSPX.lands_againZ f1 fun g2 f2 u2 => ?_)
            have J2 : Inv X pins τ G { s' with heap := g2 } := J.landed nb f2.1 ((up.trans u1).trans u2) os ag
            obtain ⟨oe2, vs2, e2, z2, d2⟩ := f2.there
            refine store_ok (X := X.suite p ((p, oe2) :: (X.pn ++ pins))) (v := .ref p) (J2.suite e2 d2 np pL pF) nd hi (.inl hln) rfl (fun s5 S5 => ?_) (.inr hln)
            refine wpAny_mono ((hsu p oe2 cls d (X.pn ++ pins) z2 ⟨_, d2⟩).run [] s5 _ G _ S5 yq) (fun fl s6 q => ?_) (fun _ _ z => z.elim)
            have gone : ∀ {τ6 : L2.St} {G6 : Hp} {Q : Shared → Prop}, Inv (X.suite p ((p, oe2) :: (X.pn ++ pins))) [] τ6 G6 s6 → (∀ s7, Inv X pins (τ6.set i none) G6 s7 → Q s7) →
                wpAny (model X.prog X.w) X.A (do bindName X.env n .none; unbindBehindTheSuite X.env n q2) (fun _ s7 => Q s7) X.xe s6 := fun {τ6 G6 Q} S6 hq => gone_ok (S6.unsuite ok) nd hi hln hq
            cases fl with
            | next => obtain ⟨τ6, G6, S6, q6⟩ := q; exact gone S6 fun s7 J7 => ⟨_, _, J7, q6⟩
            | brk => obtain ⟨τ6, G6, S6, q6⟩ := q; exact gone S6 fun s7 J7 => ⟨_, _, J7, q6⟩
            | cont => obtain ⟨τ6, G6, S6, q6⟩ := q; exact gone S6 fun s7 J7 => ⟨_, _, J7, q6⟩
            | ret u => obtain ⟨v6, τ6, G6, S6, r6, q6⟩ := q; exact gone S6 fun s7 J7 => ⟨_, _, _, J7, r6, q6⟩
          | none, some _, hs => exact hs.elim
          | some _, none, hs => exact hs.elim
    exact walk hh wq
  · have q' := sp_try ok q
    cases fl with
    | next => obtain ⟨σ', H', I', z⟩ := q'; exact wpAny_execs_nil ⟨σ', H', I', z⟩
    | brk => exact q'
    | cont => exact q'
    | ret u => exact q'
end
/-! ### try, in the mirror -/
abbrev Cl := (Str → Option Bool) × Option Nat × MS
def Bx.wi (b : Bx) (a C : Addr) (dd : Option Addr) : Bx := { b with xc := some (a, C, dd) }
/-- a suite gives a value back -/
def onlyRt : SO → SO
  | .rt (.d x) s => .rt (.d x) s
  | _ => .bad
def setX (oi : Option Nat) (en : En) (l : List (Str × D)) : En := match oi with
  | none => en
  | some i => en.set i (some (.xcp l))
def clGo (k : Str) (l : List (Str × D)) (en : En) (s : Sto) : List Cl → SO
  | [] => .exc k l en s
  | (m, oi, g) :: r => match m k with
    | some true => onlyRt (g (setX oi en l) s)
    | some false => clGo k l en s r
    | none => .bad
def sTry (fb : MS) (cl : List Cl) : MS := fun en s => match fb en s with
  | .exc k l en' s' => clGo k l en' s' cl
  | o => o
/-- what a clause's suite does, in its own surroundings -/
def tsOf (K : PySem.W.Frag) (mg : Str → Option Value) (bt : Bx) (m : Str → Option Bool) (g : MS) : Addr → Value → Option Addr → TS := fun a cls d D σ H => ∃ k C, cls = .ref C ∧ mg k = some (.ref C) ∧ m k = some true ∧ tS K mg (bt.wi a C d) g WF D σ H
inductive ClOk (X : Cx) (bt : Bx) : List ExceptHandler → List Cl → Prop
  | nil : ClOk X bt [] []
  | cons {x : Str} {on : Option Str} {oi : Option Nat} {m : Str → Option Bool} {g : MS} {b₀ : Stmt} {suite : List Stmt} {np pos' : Pos} {hds : List ExceptHandler} {l : List Cl} (c : Value) (hc : Names X x c) (hs : SlotAt X on oi)
      (hm : ∀ k C b, m k = some b → X.mg k = some (.ref C) → PySem.W.exmOne X.K (.ref C) c = some b)
      (hsu : ∀ (a : Addr) (oe : Obj) (k : Str) (C : Addr) (d : Option Addr) (pn : List (Addr × Obj)), X.mg k = some (.ref C) → m k = some true → Zc (.ref C) d oe → (∃ vs, oe.data = .fields vs) → SSs (X.suite a ((a, oe) :: pn)) (bt.wi a C d) WF (b₀ :: suite) g) (r : ClOk X bt hds l) :
      ClOk X bt (.ExceptHandler (some (.Name x np)) on (b₀ :: suite) pos' :: hds) ((m, oi, g) :: l)
section
variable {X : Cx} {bt : Bx} {W : WX} {N : List Str} {sc : Scope}
theorem EnOk.wi {c c1 : RC} {H : Hp} {en : En} {σ : L2.St} (e : Kpx c H c1 H) (p : c1.ph = c.ph) (hn : c.bt.xc = none) (h : EnOk c H en σ) : EnOk c1 H en σ :=
  ⟨h.len, fun i x hx => by
    obtain ⟨v, h1, r⟩ := h.at_ i x hx
    refine ⟨v, h1, ?_⟩
    cases r with
    | d r => exact .d (Rep.kp e _ _ r)
    | ref r => exact .ref (by rw [p]; exact r)
    | xcp r _ => rw [hn] at r; cases r⟩
theorem ClOk.hds (hn : bt.xc = none) {hds : List ExceptHandler} {l : List Cl} (h : ClOk X bt hds l) : ∃ l' : List ClT, HdsM X hds l' ∧
    ∀ (c : RC) (H : Hp) (k : Str) (L : List (Str × D)) (en : En) (s : Sto) (D : Ends) (σ : L2.St) (C : Addr) (dd : Option Addr), Of X.K X.mg bt c → X.mg k = some (.ref C) → SOk c H s → EnOk c H en σ → XF c H L dd → PostS c W H D (clGo k L en s l) → wMix X.K W D l' (.ref C) dd σ H := by
  induction h with
  | nil => exact ⟨[], .nil, fun c H k L en s D σ C dd of hk so eo x po => po c H σ C dd (by rw [of.mg]; exact hk) (.refl _ _) so eo x⟩
  | @cons x on oi m g b₀ suite np pos' hds l c hc hs hm hsu r ih =>
    obtain ⟨l', h1, h2⟩ := ih
    refine ⟨(c, oi, tsOf X.K X.mg bt m g) :: l', .cons hc hs (fun a oe cls d pn hz hv => ⟨fun pins s σ H D I q => ?_⟩) h1, fun cc H k L en s D σ C dd of hk so eo xf po => ?_⟩
    · obtain ⟨k, C, rfl, hk, hmk, q⟩ := q
      exact (hsu a oe k C d pn hk hmk hz hv).run pins s σ H D I q
    · unfold clGo at po
      cases hb : m k with
      | none => rw [hb] at po; exact po.elim
      | some b =>
        rw [hb] at po
        refine ⟨b, hm k C b hb hk, fun e a ha => ?_, fun e => ?_⟩
        · subst e
          dsimp only at po
          let c1 : RC := { cc with bt := cc.bt.wi a C dd }
          have hx : cc.bt.xc = none := by rw [of.bt]; exact hn
          have k1 : Kpx cc H c1 H := ⟨rfl, rfl, fun _ h _ => h, fun _ _ h _ _ => h, fun _ _ h => h, fun _ _ _ h => h⟩
          have so1 : SOk c1 H s := so.kp k1 rfl so.lvb fun _ _ _ h _ => h
          have eo1 : EnOk c1 H (setX oi en L) (setO oi σ a) := by
            cases oi with
            | none => exact eo.wi k1 rfl hx
            | some i => exact (eo.wi k1 rfl hx).set (.xcp rfl (xf.kp k1))
          refine ⟨k, C, rfl, hk, hb, c1, setX oi en L, s, ⟨of.K, of.mg, by show cc.bt.wi a C dd = bt.wi a C dd; rw [of.bt]⟩, so1, eo1, ?_⟩
          have back : ∀ {c' : RC} {H' : Hp} {s' : Sto} {x : Sm.D} {v : V}, Ext c1 H c' H' → SOk c' H' s' → RepV c' H' (.d x) v → ∃ c2, Ext cc H c2 H' ∧ SOk c2 H' s' ∧ RepV c2 H' (.d x) v := fun {c' H' s' x v} e so' rv => by
            obtain ⟨l, rfl, hl⟩ := e.pre
            have kb : Kpx (c1.up l) H' (cc.up l) H' := ⟨rfl, rfl, fun _ h _ => h, fun _ _ h _ _ => h, fun _ _ h => h, fun _ _ _ h => h⟩
            cases rv with | d rv =>
            exact ⟨cc.up l, ⟨⟨l, rfl, hl⟩, e.live, e.same, e.tups, e.frzs⟩, so'.kp kb rfl so'.lvb fun _ _ _ h _ => h, .d (Rep.kp kb _ _ rv)⟩
          cases hg : g (setX oi en L) s with
          | rt y s' =>
            rw [hg] at po
            cases y with
            | d x =>
              intro c' H' v e so' rv
              obtain ⟨c2, b1, b2, b3⟩ := back e so' rv
              have z := po c2 H' v b1 b2 b3
              cases oi <;> exact z
            | ref n => exact po.elim
            | xcp l => exact po.elim
          | nx _ _ => rw [hg] at po; exact po.elim
          | bk _ _ => rw [hg] at po; exact po.elim
          | ct _ _ => rw [hg] at po; exact po.elim
          | exc _ _ _ _ => rw [hg] at po; exact po.elim
          | bad => rw [hg] at po; exact po.elim
        · subst e
          exact h2 cc H k L en s D σ C dd of hk so eo xf po
theorem ss_try (hn : bt.xc = none) (stk : X.stack = X.env :: X.outer) (hf : X.env.frame = some X.env.locals) (nd : X.N.Nodup) (tk : Takes X W) {body : List Stmt} {h₀ : ExceptHandler} {hds : List ExceptHandler} {fb : MS} {l : List Cl} {p : Pos}
    (hb : ∀ (W : WX) (pn : List (Addr × Obj)) (xe : Value → Shared → Prop), Takes (X.tr pn xe) W → PassesOwn (model X.prog X.w) X.A X.env xe → SSs (X.tr pn xe) bt W body fb) (hh : ClOk X bt (h₀ :: hds) l) : SS X bt W (.Try body (h₀ :: hds) [] [] p) (sTry fb l) := by
  obtain ⟨l', h1, h2⟩ := hh.hds (W := W) hn
  refine PS.weak (ps_try_mix (tb := fun W => tS X.K X.mg bt fb W) stk hf nd tk hb h1) fun E σ H => ?_
  rintro ⟨c, en, s, of, so, eo, po⟩
  refine ⟨c, en, s, of, so, eo, ?_⟩
  unfold sTry at po
  cases hg : fb en s with
  | exc k L en' s' =>
    rw [hg] at po
    intro c' H' σ' C dd hk e so' eo' xf
    exact h2 c' H' k L en' s' E σ' C dd (e.of of) (by rw [← of.mg]; exact hk) so' eo' xf (PostS.shift po e)
  | nx _ _ => rw [hg] at po; exact po
  | bk _ _ => rw [hg] at po; exact po
  | ct _ _ => rw [hg] at po; exact po
  | rt _ _ => rw [hg] at po; exact po
  | bad => rw [hg] at po; exact po
/-- a field of the error that is handled -/
def eXf (i : Nat) (f : Str) : ME := fun en s => match en[i]? with
  | some (some (.xcp l)) => match l.lookup f with
    | some d => .ok (.d d) s
    | none => .bad
  | _ => .bad
theorem RepF.lookup {c : RC} {H : Hp} {f : Str} : ∀ {l : List (Str × D)} {fs : List (Str × V)} {d : D}, RepF c H l fs → l.lookup f = some d → ∃ v, fs.lookup f = some v ∧ Rep c H d v
  | [], _, _, h, e => by cases e
  | (g, x) :: l, _, _, h, e => by
    cases h with | cons h t =>
    rw [List.lookup_cons] at e ⊢
    split at e
    · cases e; exact ⟨_, rfl, h⟩
    · exact RepF.lookup t e
theorem se_xf {a C : Addr} {dd : Option Addr} {oe : Obj} {pn : List (Addr × Obj)} (h : Here (X.suite a ((a, oe) :: pn)) N sc) (i : Nat) {x f : Str} {p pos : Pos} (T : XfC X.K C) (hno : PySem.W.findIn X.K (.ref C) f = some none) (hz : Zc (.ref C) dd oe) (hv : ∃ vs, oe.data = .fields vs)
    (hi : N[i]? = some x := by rfl) (vis : visB sc x = true := by kernel_rfl) (hb : attributeBase (.Name x p) f (X.suite a ((a, oe) :: pn)).env (eval (.Name x p) (X.suite a ((a, oe) :: pn)).env) = eval (.Name x p) (X.suite a ((a, oe) :: pn)).env := by rfl) :
    SE (X.suite a ((a, oe) :: pn)) (bt.wi a C dd) W (.Attribute (.Name x p) f pos) (eXf i f) := by
  obtain ⟨v, d1, d2⟩ := visB_ok vis
  have hp : PE (X.suite a ((a, oe) :: pn)) (.Name x p) (tVar i) := pe_var (i := i) (by rw [h.N]; exact hi) (by rw [h.sc]; exact v) d1 d2
  refine PE.weak (pe_xf T hno hz hv hp hb) fun σ H Q => ?_
  rintro ⟨c, en, s, of, so, eo, po⟩
  unfold eXf at po
  split at po
  · split at po
    · rename_i l hl _ d hd
      obtain ⟨v, e1, rv⟩ := eo.at_ i _ hl
      cases rv with | xcp r xf =>
      rw [of.bt] at r
      cases r
      refine ⟨_, e1, rfl, rfl, ?_⟩
      rcases xf with ⟨rfl, _⟩ | ⟨dx, fs, e2, e3, _, rf⟩
      · cases hd
      · obtain ⟨w, e4, rw'⟩ := rf.lookup hd
        exact ⟨dx, fs, w, e2, e3, e4, po c H w (.refl _ _) so (.d rw')⟩
    · exact po.elim
  · exact po.elim
end
end Sm
set_option Elab.async false
set_option linter.all false
set_option maxRecDepth 100000
set_option maxHeartbeats 4000000
namespace Sm
open PySem PySem.Spec PyProof.Rows L2

/-! ## what a printed derivation takes -/
/-- the surroundings of an expression -/
structure CE (X : Cx) (N : List Str) (sc : Scope) (k : Nat) : Prop where
  h : Here X N sc
  nd : X.N.Nodup
  calm : X.calm = true
  at_ : AtCall k X.A
/-- the surroundings of a def's statements -/
structure CS (X : Cx) (N : List Str) (sc : Scope) (k : Nat) (W : WX) : Prop extends CE X N sc k where
  fn : ∀ x, X.fn x = true
  tk : Takes X W
  pas : PassesOwn (model X.prog X.w) X.A X.env X.xe
  stk : X.stack = X.env :: X.outer
  frame : X.env.frame = some X.env.locals
theorem AtCall.mono {j k : Nat} {A : Around} (a : AtCall k A) (h : j ≤ k) : AtCall j A := ⟨a.room.mono h, a.grd⟩
theorem AtCall.u66 {k : Nat} {A : Around} (a : AtCall k A) : A.units + 66 < cLine := by have := a.room.un; omega
theorem AtCall.u65 {k : Nat} {A : Around} (a : AtCall k A) : A.units + 65 < cLine := by have := a.room.un; omega
theorem AtCall.u64 {k : Nat} {A : Around} (a : AtCall k A) : A.units + 64 < cLine := by have := a.room.un; omega
/-- within a comprehension's block -/
theorem CE.blk {X : Cx} {N : List Str} {sc : Scope} {k : Nat} (c : CE X N sc k) (s : Shared) (H : Hp) (scope : Scope) (C : Addr) (cl : List (Str × Addr)) (fp : List Addr) : CE (X.blk s H scope (compEnvC scope cl C X.env) fp) N (relS scope sc) k :=
  ⟨⟨c.h.N, by show relS scope X.env.scope = _; rw [c.h.sc]⟩, c.nd, c.calm, c.at_⟩
/-- within a try's body -/
theorem CS.tr {X : Cx} {N : List Str} {sc : Scope} {k : Nat} {W W' : WX} (c : CS X N sc k W) {pn : List (Addr × Obj)} {xe : Value → Shared → Prop} (tk : Takes (X.tr pn xe) W') (pas : PassesOwn (model X.prog X.w) X.A X.env xe) : CS (X.tr pn xe) N sc k W' :=
  ⟨⟨⟨c.h.N, c.h.sc⟩, c.nd, c.calm, c.at_⟩, c.fn, tk, pas, c.stk, c.frame⟩
/-- within an except clause's suite -/
structure CU (X : Cx) (N : List Str) (sc : Scope) (k : Nat) : Prop where
  h : Here X N sc
  nd : X.N.Nodup
  grd : X.A.guards = some []
  un : X.A.units + 16 * k + 200 < cLine
theorem CE.suite {X : Cx} {N : List Str} {sc : Scope} {k : Nat} (c : CE X N sc k) (a : Addr) (pn : List (Addr × Obj)) : CU (X.suite a pn) N sc k := ⟨⟨c.h.N, c.h.sc⟩, c.nd, c.at_.grd, c.at_.room.un⟩
/-- a fact about the module's names -/
structure Gl2 (K : PySem.W.Frag) (mg : Str → Option Value) : Prop where
  glo : ∀ x, (He.Fa.glo x).ok K = true → mg x = some (.ref (He.ga K x))
  free : ∀ x, (He.Fa.free x).ok K = true → mg x = none
  int : ∀ x i, (He.Fa.int x i).ok K = true → ∃ t, mg x = some (.int i t)
  str : ∀ x z, (He.Fa.str x z).ok K = true → ∃ t, mg x = some (.str z t)
theorem gl2_of {K : PySem.W.Frag} {h : Heap} {mg : Str → Option Value} (X : K.In h) (G : h.Ns mainGlobals mg) : Gl2 K mg :=
  ⟨fun _ => He.glo_ok X G, fun _ => He.free_ok X G, fun _ _ => He.int_ok X G, fun _ _ => He.str_ok X G⟩
/-- a def from the head's datum -/
theorem fnG_ofD {P : Program} {w : World} {K : PySem.W.Frag} {mg : Str → Option Value} {base : Heap} {k : Nat} {x : Str} {st : Stmt} {N ps : List Str} {fb : MS} {M : MF} {fd : FuncData} {f : Addr} (F : FunD K x x (defArgs st) (defBody st) (defScope st) [] [] f fd) (S : FnScope N ps (defScope st)) (wy : Way N.length fb M)
    (hbody : ∀ (X : Cx) (bt : Bx) (W : WX), X.prog = P → X.w = w → X.K = K → X.mg = mg → X.base = base → CS X N (defScope st) k W → bt.xc = none → SSs X bt W (defBody st) fb) : FnG P w K mg base (k + 1) f fd ps M := by
  obtain ⟨oc, od, dV, kV, doc, pm, an, cdv, ct, osl, rfl, lk, hcd, _, _⟩ := F.ex
  exact fnG_of lk hcd S wy fun X bt W e1 e2 e3 e4 e5 calm stk frame fn here at_ tk pas nx => hbody X bt W e1 e2 e3 e4 e5 ⟨⟨here, here.N ▸ S.nd, calm, at_⟩, fn, tk, pas, stk, frame⟩ nx
theorem fnT_of {P : Program} {w : World} {K : PySem.W.Frag} {mg : Str → Option Value} {base : Heap} {k n : Nat} {x : Str} {st : Stmt} {N ps : List Str} {fb : MS} {M : MF} {fd : FuncData} {f : Addr} (F : FunD K x x (defArgs st) (defBody st) (defScope st) [] [] f fd) (S : FnScope N ps (defScope st)) (wy : Way N.length fb M) (hm : mg x = some (.ref f)) (hn : ps.length = n) (hb : Binds K fd ps [])
    (hbody : ∀ (X : Cx) (bt : Bx) (W : WX), X.prog = P → X.w = w → X.K = K → X.mg = mg → X.base = base → CS X N (defScope st) k W → bt.xc = none → SSs X bt W (defBody st) fb) : FnT P w K mg base (k + 1) x n M :=
  ⟨f, fd, ps, hm, F.kp, hb, hn, fnG_ofD F S wy hbody⟩
end Sm
set_option Elab.async false
set_option linter.all false
set_option maxRecDepth 100000
set_option maxHeartbeats 4000000
namespace Sm
open PySem PySem.Spec PyProof.Rows L2

def natAt (en : En) (i : Nat) : Nat := match en[i]? with
  | some (some (.d (.int x))) => x.natAbs
  | _ => 0
section
variable {X : Cx} {bt : Bx} {W : WX} {N : List Str} {sc : Scope}
/-! ## a list + a list, into a list that will change -/
def eCatM (fa fb : ME) : ME := fun en s => (fa en s).bind fun x s1 => (fb en s1).bind fun y s2 => match asLst s2 x, asLst s2 y with
  | some i, some j => if i.length + j.length ≤ sizeLine then .ok (.ref s2.length) (s2 ++ [.lst (i ++ j)]) else .bad
  | _, _ => .bad
theorem se_catM {a b : Expr} {fa fb : ME} {p : Pos} (ha : SE X bt W a fa) (hb : SE X bt W b fb) : SE X bt W (.BinOp a .Add b p) (eCatM fa fb) := PE.weak (pe_op op_cat ha hb) fun σ H Q => by
  rintro ⟨c, en, s, of, so, eo, po⟩
  refine ⟨c, en, s, of, so, eo, po.bind fun x s1 c1 H1 v e1 so1 r1 po1 => ?_⟩
  refine ⟨c1, en, s1, e1.of of, so1, eo.mono e1, po1.bind fun y s2 c2 H2 w e2 so2 r2 po2 => ?_⟩
  split at po2
  · split at po2
    · rename_i i j e3 e4 hz
      obtain ⟨p, xs, rfl, hp, rp⟩ := asLst_ok so2 (r1.mono e2) e3
      obtain ⟨q, ys, rfl, hq, rq⟩ := asLst_ok so2 r2 e4
      exact ⟨_, _, _, _, rfl, rfl, hp, hq, by rw [← rp.length, ← rq.length]; exact hz, fun p hp => po2 _ _ _ (push_ext hp) (so2.push hp ⟨_, upd_same, Reps.mono (push_ext hp) _ _ (rp.append rq)⟩) (.ref (ref_new so2))⟩
    · exact po2.elim
  · exact po2.elim
/-! ## a, b = x, y; a, b, c = x, y, z -/
theorem swapped_env {ts : List Expr} {v : Expr} {env : Env} : swappedStores ts v env = swappedStores ts v (envS env.scope) := rfl
theorem ss_pr2 (h : Here X N sc) (hc : X.calm = true) (nd : X.N.Nodup) (i j : Nat) {x y : Str} {a b : Expr} {fa : MA} {px py pt p : Pos} {kt k2 pt2} (ha : SA X bt W [a, b] fa)
    (hw : swappedStores [.Tuple [.Name x px, .Name y py] kt pt] (.Tuple [a, b] k2 pt2) (envS sc) = pure (some [x, y]))
    (hi : N[i]? = some x := by rfl) (hj : N[j]? = some y := by rfl) (hij : i ≠ j := by decide) (hx : lclB sc x = true := by kernel_rfl) (hy : lclB sc y = true := by kernel_rfl)
    (hs : swapsWithSole [.Tuple [.Name x px, .Name y py] kt pt] (.Tuple [a, b] k2 pt2) p.line X.env = pure false := by rfl) :
    SS X bt W (.Assign [.Tuple [.Name x px, .Name y py] kt pt] (.Tuple [a, b] k2 pt2) p) (sPar2 i j fa) := ss_par2 h hc nd i j ha (by rw [swapped_env, h.sc]; exact hw) hi hj hij hx hy hs
def sPar3 (i j l : Nat) (fa : MA) : MS := fun en s => (fa en s).then en fun xs s => match xs with
  | [a, b, c] => .nx (((en.set i (some a)).set j (some b)).set l (some c)) s
  | _ => .bad
theorem RepVs.three {c : RC} {H : Hp} {a b d : Vl} {vs : List V} (h : RepVs c H [a, b, d] vs) : ∃ x y z, vs = [x, y, z] ∧ RepV c H a x ∧ RepV c H b y ∧ RepV c H d z := by
  cases h with | cons h t =>
  obtain ⟨y, z, rfl, h1, h2⟩ := t.two
  exact ⟨_, y, z, rfl, h, h1, h2⟩
theorem ss_pr3 (h : Here X N sc) (hc : X.calm = true) (nd : X.N.Nodup) (i j l : Nat) {x y z : Str} {a b d : Expr} {fa : MA} {px py pz pt p : Pos} {kt k2 pt2} (ha : SA X bt W [a, b, d] fa)
    (hw : swappedStores [.Tuple [.Name x px, .Name y py, .Name z pz] kt pt] (.Tuple [a, b, d] k2 pt2) (envS sc) = pure (some [x, y, z]))
    (hi : N[i]? = some x := by rfl) (hj : N[j]? = some y := by rfl) (hl : N[l]? = some z := by rfl) (hij : i ≠ j := by decide) (hil : i ≠ l := by decide) (hjl : j ≠ l := by decide) (hx : lclB sc x = true := by kernel_rfl) (hy : lclB sc y = true := by kernel_rfl) (hz : lclB sc z = true := by kernel_rfl)
    (hs : swapsWithSole [.Tuple [.Name x px, .Name y py, .Name z pz] kt pt] (.Tuple [a, b, d] k2 pt2) p.line X.env = pure false := by rfl) :
    SS X bt W (.Assign [.Tuple [.Name x px, .Name y py, .Name z pz] kt pt] (.Tuple [a, b, d] k2 pt2) p) (sPar3 i j l fa) :=
  PS.weak (ps_par3 hc nd (by rw [h.N]; exact hi) (by rw [h.N]; exact hj) (by rw [h.N]; exact hl) hij hil hjl (by rw [h.sc]; exact lclB_ok hx) (by rw [h.sc]; exact lclB_ok hy) (by rw [h.sc]; exact lclB_ok hz) ha (by rw [swapped_env, h.sc]; exact hw) hs) fun E σ H => by
    rintro ⟨c, en, s, of, so, eo, po⟩
    refine ⟨c, en, s, of, so, eo, po.then eo fun x s' c' H' v e so' eo' r po' => ?_⟩
    split at po'
    · obtain ⟨u, v, w, rfl, ru, rv, rw'⟩ := r.three
      exact ⟨u, v, w, rfl, po' c' H' _ (.refl _ _) so' (((eo'.set ru).set rv).set rw')⟩
    · exact po'.elim
/-! ## comprehensions, with the block's surroundings -/
theorem se_lcC {k : Nat} {elt tg iter : Expr} {ifs : List Expr} {scope : Scope} {pos : Pos} {vs0 : List Nat} {fi : En → Sto → Out (List D)} {g : GT} {ft : MT} {fe : ME} (c : CE X N sc k) (own : List (Str × Nat)) (hi : SI X bt W tg iter fi)
    (hg : ∀ (s : Shared) (H : Hp) (C : Addr) (cl : List (Str × Addr)) (fp : List Addr) (bt : Bx), CE (X.blk s H scope (compEnvC scope cl C X.env) fp) N (relS scope sc) k → STg (X.blk s H scope (compEnvC scope cl C X.env) fp) bt tg vs0 g)
    (ht : ∀ (s : Shared) (H : Hp) (C : Addr) (cl : List (Str × Addr)) (fp : List Addr) (bt : Bx), CE (X.blk s H scope (compEnvC scope cl C X.env) fp) N (relS scope sc) k → SIfs (X.blk s H scope (compEnvC scope cl C X.env) fp) bt ifs ft)
    (he : ∀ (s : Shared) (H : Hp) (C : Addr) (cl : List (Str × Addr)) (fp : List Addr) (bt : Bx), CE (X.blk s H scope (compEnvC scope cl C X.env) fp) N (relS scope sc) k → SE (X.blk s H scope (compEnvC scope cl C X.env) fp) bt WF elt fe)
    (ok : blkC N sc scope own = true := by kernel_rfl) (hv : ∀ i ∈ vs0, i ∈ own.map (·.2) := by decide) (hs : ∀ x, foldedSetIterable iter X.env x = pure x := by intro _; rfl) :
    SE X bt W (.ListComp elt [⟨tg, iter, ifs, 0⟩] scope pos) (eLc (own.map (·.2)) fi g ft fe) :=
  se_lc c.h own c.calm c.nd hi (fun s H C cl fp bt => hg s H C cl fp bt (c.blk s H scope C cl fp)) (fun s H C cl fp bt => ht s H C cl fp bt (c.blk s H scope C cl fp)) (fun s H C cl fp bt => he s H C cl fp bt (c.blk s H scope C cl fp)) ok hv hs
theorem ss_setLcC {k : Nat} {y : Str} {py : Pos} {elt tg iter : Expr} {ifs : List Expr} {scope : Scope} {pos spos : Pos} {vs0 : List Nat} {fi : En → Sto → Out (List D)} {g : GT} {ft : MT} {fe : ME} (c : CE X N sc k) (i : Nat) (own : List (Str × Nat)) 
    (hsw : swapsWith (.ListComp elt [⟨tg, iter, ifs, 0⟩] scope pos) (some (.Name y py)) spos.line (envS sc) = pure true) (hi : SI X bt W tg iter fi)
    (hg : ∀ (s : Shared) (H : Hp) (C : Addr) (cl : List (Str × Addr)) (fp : List Addr) (bt : Bx), CE (X.blk s H scope (compEnvC scope cl C X.env) fp) N (relS scope sc) k → STg (X.blk s H scope (compEnvC scope cl C X.env) fp) bt tg vs0 g)
    (ht : ∀ (s : Shared) (H : Hp) (C : Addr) (cl : List (Str × Addr)) (fp : List Addr) (bt : Bx), CE (X.blk s H scope (compEnvC scope cl C X.env) fp) N (relS scope sc) k → SIfs (X.blk s H scope (compEnvC scope cl C X.env) fp) bt ifs ft)
    (he : ∀ (s : Shared) (H : Hp) (C : Addr) (cl : List (Str × Addr)) (fp : List Addr) (bt : Bx), CE (X.blk s H scope (compEnvC scope cl C X.env) fp) N (relS scope sc) k → SE (X.blk s H scope (compEnvC scope cl C X.env) fp) bt WF elt fe)
    (hN : N[i]? = some y := by rfl) (hl : lclB sc y = true := by kernel_rfl)
    (ok : blkC N sc scope own = true := by kernel_rfl) (hv : ∀ i ∈ vs0, i ∈ own.map (·.2) := by decide) (hs : ∀ x, foldedSetIterable iter X.env x = pure x := by intro _; rfl) :
    SS X bt W (.Assign [.Name y py] (.ListComp elt [⟨tg, iter, ifs, 0⟩] scope pos) spos) (sSet i (eLc (own.map (·.2)) fi g ft fe)) :=
  ss_setLc c.h i own c.calm c.nd hsw hi (fun s H C cl fp bt => hg s H C cl fp bt (c.blk s H scope C cl fp)) (fun s H C cl fp bt => ht s H C cl fp bt (c.blk s H scope C cl fp)) (fun s H C cl fp bt => he s H C cl fp bt (c.blk s H scope C cl fp)) hN hl ok hv hs
end
theorem bb_len : bootBuiltins "len" = some (.builtin "len") := by decide +kernel
theorem bb_abs : bootBuiltins "abs" = some (.builtin "abs") := by decide +kernel
theorem bb_max : bootBuiltins "max" = some (.builtin "max") := by decide +kernel
theorem bb_min : bootBuiltins "min" = some (.builtin "min") := by decide +kernel
theorem bb_isinstance : bootBuiltins "isinstance" = some (.builtin "isinstance") := by decide +kernel
theorem bb_all : bootBuiltins "all" = some (.builtin "all") := by decide +kernel
theorem bb_any : bootBuiltins "any" = some (.builtin "any") := by decide +kernel
theorem bb_repr : bootBuiltins "repr" = some (.builtin "repr") := by decide +kernel
theorem bb_int : bootBuiltins "int" = some (.type "int") := by decide +kernel
theorem bb_str : bootBuiltins "str" = some (.type "str") := by decide +kernel
theorem bb_tuple : bootBuiltins "tuple" = some (.type "tuple") := by decide +kernel
theorem bb_list : bootBuiltins "list" = some (.type "list") := by decide +kernel
theorem bb_bool : bootBuiltins "bool" = some (.type "bool") := by decide +kernel
theorem bb_dict : bootBuiltins "dict" = some (.type "dict") := by decide +kernel
end Sm
set_option Elab.async false
set_option linter.all false
set_option maxRecDepth 100000
set_option maxHeartbeats 4000000
namespace Sm
open PySem PySem.Spec PyProof.Rows L2

/-! ## an error class whose __init__ says super().__init__(..) and keeps its one argument -/
/-- the text that is told to the base: it comes through -/
def NoStar (msg : Expr) : Prop := ∀ env, starEach [msg] env = (false, eval msg env) :: starEach [] env
def MsgOk (msg : Expr) (pn : Str) (u : Value) : Prop := ∀ (prog : Program) (w : World) (A : Around) (E : Value → Shared → Prop) (env : Env) (L : Addr) (m : Str → Option Value) (s : Shared) (Q : Value → Shared → Prop), env.scope.kind = .function → env.kindOf pn = some .local → env.locals = L → s.heap.Ns L m → m pn = some u →
  (∀ z t k, Q (.str z t) { s with toks := k }) → wpAny (model prog w) A (eval msg env) Q E s
/-- the def itself, as written -/
structure InitSt (body : List Stmt) (scope : Scope) (params : Arguments) (sn pn f : Str) (msg : Expr) : Prop where
  body : ∃ p0 p1 p2 p3 p4 p5 p6 p7 p8 p9, body = [.Expr (.Call (.Attribute (.Call (.Name "super" p0) [] [] p1) "__init__" p2) [msg] [] p3) p4, .Assign [.Attribute (.Name sn p5) f p6] (.Name pn p7) p8] ∧ p9 = p8 ∧
    ∀ env, ∃ pl, eval (.Call (.Attribute (.Call (.Name "super" p0) [] [] p1) "__init__" p2) [msg] [] p3) env = (do
      let ov ← attributeBase (.Call (.Name "super" p0) [] [] p1) "__init__" env (eval (.Call (.Name "super" p0) [] [] p1) env)
      standAt p2.atName
      let (f, first) ← holding [ov] (getMethod ov "__init__" pl)
      callWith p3 f first (backTo p3 (starEach [msg] env)) [])
  ar : ∃ ar, (params.posonlyargs ++ params.args).head? = some ar ∧ ar.arg = sn
  kind : scope.kind = .function
  co : scope.isCoroutine = false
  gen : scope.isGenerator = false
  nocell : ∀ x ∈ scope.names, x.2 ≠ .cell
  sup : scope.names.lookup ("super" : Str) = some .globalImplicit
  cls : scope.names.lookup ("__class__" : Str) = some .free
  lsn : scope.names.lookup sn = some .local
  lpn : scope.names.lookup pn = some .local
  ne : pn ≠ sn
  nst : NoStar msg
  dbg : (sn == ("__debug__" : Str)) = false ∧ (pn == ("__debug__" : Str)) = false
open PySem.W in
/-- what the written part says of the class -/
structure ExI (prog : Program) (K : PySem.W.Frag) (C : Addr) (f sn pn : Str) (msg : Expr) : Prop where
  ex : ∃ (B newId initId : String) (bmB : List Value) (fI cc cda : Addr) (name qual : Str) (params : Arguments) (body : List Stmt) (scope : Scope) (dV kV doc pm ct oc ccl cl : Value) (an od cdd cld : Option Addr) (osl ccs csl : Array (Option Value)) (vs : Array Value) (file : Str) (tf : Tok) (cdC : ClassData),
    ExcBaseFacts B newId initId bmB ∧ KxsFacts B initId ∧ StoreFacts B bmB "object.__setattr__" "object" ∧ excInitIn K C bmB newId = true ∧ findIn K (.ref C) "__init__" = some (some (.ref fI)) ∧ isFn K (.ref fI) = true ∧
    K.lookup fI = some ⟨oc, od, .func (ksFn name qual params body scope dV kV doc pm an (.ref cda) ct cc), osl⟩ ∧ codeIn K (.ref cda) qual = true ∧ K.lookup cc = some ⟨cl, cld, .cell (some (.ref C)), csl⟩ ∧ clsIn K C = some cdC ∧ mroIn K C (.ref C) = some true ∧
    ks_superIn K C C "__init__" = some (some (.builtin initId)) ∧ subIn K (.ref C) (.type B) = some true ∧ excOver K C bmB = true ∧
    K.lookup cda = some ⟨ccl, cdd, .fields vs, ccs⟩ ∧ vs[2]? = some (.str file tf) ∧ ((prog.main.file : Str) == file) = true ∧ InitSt body scope params sn pn f msg ∧
    (∀ (s : Shared) (a b : Value), BindsTo s (ksFn name qual params body scope dV kV doc pm an (.ref cda) ct cc) ⟨[a, b], []⟩ [(sn, a), (pn, b)])
  sup : nsIn K mainGlobals "super" = some none
  st : nsIn K cStatics "thirdparty.any" = some none
  sa : findIn K (.ref C) "__setattr__" = some (some (.builtin "object.__setattr__"))
  tk : takerIn K C f = some none
  hd : hasDictIn K C = true
  top : (prog.main.scope.names.lookup ("super" : Str)).isSome = false
  exC : subIn K (.ref C) (.type "BaseException") = some true
  tyC : typeIn K (.ref C) = some (.type "type")
  kC : keepIn K (.ref C) = true
theorem boot_super : bootBuiltins "super" = some (.type "super") := by decide +kernel
open PySem.W in
theorem init_run {prog : Program} {w : World} {A : Around} {K : PySem.W.Frag} {mg mb : Str → Option Value} {R : Result → Shared → Prop} {C fI cc cda e t0 : Addr} {B newId initId : String} {bmB : List Value} {name qual f sn pn : Str} {params : Arguments} {body : List Stmt} {scope : Scope} {dV kV doc pm ct oc ccl cl u : Value}
    {an od cdd cld : Option Addr} {osl ccs csl : Array (Option Value)} {vs : Array Value} {file : Str} {tf : Tok} {cdC : ClassData} {msg : Expr} {h₀ : Heap} {s : Shared}
    (room : A.depth < recursionLimit) (X₀ : K.In h₀) (k₀ : ∀ b o, h₀.get? b = some o → s.heap.get? b = some o) (z₀ : h₀.objs.size ≤ s.heap.objs.size) (G : h₀.Ns mainGlobals mg) (Bn : h₀.Ns builtinsNs mb) (hb : mb "super" = some (.type "super")) (nl : h₀.NoLimit)
    (he : s.heap.get? e = some (excObj C t0 none .none)) (hn : h₀.get? e = none)
    (FB : ExcBaseFacts B newId initId bmB) (KF : KxsFacts B initId) (SF : StoreFacts B bmB "object.__setattr__" "object") (q : excInitIn K C bmB newId = true)
    (lk : K.lookup fI = some ⟨oc, od, .func (ksFn name qual params body scope dV kV doc pm an (.ref cda) ct cc), osl⟩) (hcd : codeIn K (.ref cda) qual = true) (hcell : K.lookup cc = some ⟨cl, cld, .cell (some (.ref C)), csl⟩) (hD : clsIn K C = some cdC) (hsub : mroIn K C (.ref C) = some true)
    (hm : ks_superIn K C C "__init__" = some (some (.builtin initId))) (hB : subIn K (.ref C) (.type B) = some true) (hp : excOver K C bmB = true)
    (hcode : K.lookup cda = some ⟨ccl, cdd, .fields vs, ccs⟩) (hvs : vs[2]? = some (.str file tf)) (hfile : ((prog.main.file : Str) == file) = true) (S : InitSt body scope params sn pn f msg)
    (bind : BindsTo s (ksFn name qual params body scope dV kV doc pm an (.ref cda) ct cc) ⟨[.ref e, u], []⟩ [(sn, .ref e), (pn, u)])
    (sup : nsIn K mainGlobals "super" = some none) (st : nsIn K cStatics "thirdparty.any" = some none) (sa : findIn K (.ref C) "__setattr__" = some (some (.builtin "object.__setattr__"))) (tk : takerIn K C f = some none) (hd : hasDictIn K C = true) (top : (prog.main.scope.names.lookup ("super" : Str)).isSome = false)
    (mok : MsgOk msg pn u)
    (fin : ∀ dx t1 h' k es n, (∀ b o, h₀.get? b = some o → h'.get? b = some o) → h'.get? e = some (excObj C t1 (some dx) .none) → h'.get? dx = some (dictOf es n) → es = [⟨PyData.keyHash w.params f, .str f k, u⟩] → h₀.get? dx = none → dx ≠ e → R (.ok (.ret .none)) { s with heap := h', toks := k + 1 }) :
    codeAny (model prog w) A (.call (.ref fI) ⟨[.ref e, u], []⟩) R s := by
  have KX : K.In s.heap := X₀.keeps k₀
  obtain ⟨p0, p1, p2, p3, p4, p5, p6, p7, p8, _, rfl, _, hcall⟩ := S.body
  obtain ⟨ar, har, rfl⟩ := S.ar
  refine ks_codeAny_call_defAt (fd := ksFn name qual params _ scope dV kV doc pm an (.ref cda) ct cc) room (KX _ _ lk) rfl (nl.keeps k₀) (codeRec_of KX hcd) rfl bind S.nocell (fun y hy => ?_) (fun h₂ hns hk => ?_) S.co S.gen S.kind
  · rcases List.mem_cons.mp hy with rfl | hy
    · exact S.lsn
    · rw [List.mem_singleton.mp hy]; exact S.lpn
  generalize hL : s.heap.objs.size = L at hns ⊢
  have mself : ([(ar.arg, Value.ref e), (pn, u)] : List (Str × Value)).reverse.lookup ar.arg = some (.ref e) := by
    show ([(pn, u), (ar.arg, Value.ref e)] : List (Str × Value)).lookup ar.arg = _
    rw [List.lookup_cons, show (ar.arg == pn) = false from beq_eq_false_iff_ne.mpr (Ne.symm S.ne), List.lookup_cons, beq_self_eq_true]
  have mpn : ([(ar.arg, Value.ref e), (pn, u)] : List (Str × Value)).reverse.lookup pn = some u := by
    show ([(pn, u), (ar.arg, Value.ref e)] : List (Str × Value)).lookup pn = _
    rw [List.lookup_cons, beq_self_eq_true]
  generalize hmm : (fun x => ([(ar.arg, Value.ref e), (pn, u)] : List (Str × Value)).reverse.lookup x) = m at hns
  have m1 : m ar.arg = some (.ref e) := by rw [← hmm]; exact mself
  have m2 : m pn = some u := by rw [← hmm]; exact mpn
  have F : Fr h₀ L h₂ m := ⟨hns, fun b o z => hk b o (k₀ b o z), by rw [← hL]; exact z₀⟩
  have eL : e ≠ L := by rw [← hL]; exact Nat.ne_of_lt (Heap.lt_size he)
  have N : News h₀ L h₂ [(e, excObj C t0 none .none)] := fun p hp => by
    rw [List.mem_singleton.mp hp]
    exact ⟨hk _ _ he, eL, hn⟩
  have I : InstAt h₂ e (excObj C t0 none .none) C none := ⟨hk _ _ he, rfl, rfl, trivial⟩
  have X2 : K.In h₂ := X₀.keeps F.keep
  obtain ⟨oD, hD1, hD2⟩ : ∃ oD, h₂.get? C = some oD ∧ oD.data = .cls cdC := by
    unfold clsIn at hD
    split at hD
    · rename_i ho
      cases hD
      exact ⟨_, X2 _ _ ho, rfl⟩
    · cases hD
  generalize hst : (if True then s.toks + [(ar.arg, Value.ref e), (pn, u)].length else 0) = tk0
  have htk : s.toks + [(ar.arg, Value.ref e), (pn, u)].length = tk0 := by rw [← hst, if_pos trivial]
  rw [htk]
  obtain ⟨pl, hpl⟩ := hcall (callEnv (ksFn name qual params _ scope dV kV doc pm an (.ref cda) ct cc) L fI)
  refine ks_wpAt_execs_cons (ks_wpAt_Expr_any (ks_wpAt_MethodCall (pl := pl) ?_ hpl) ?_ (by rfl))
  · refine ks_wpAt_super_base (f := fI) (cc := cda) S.sup S.cls (by decide) rfl (hk _ _ (KX _ _ lk)) rfl har rfl (hk _ _ (KX _ _ hcode)) rfl hvs hfile top ?_
    refine ks_loadName_global S.kind S.sup (PySem.Calls.loadGlobal_builtin (G.keeps F.keep) (mg_none_of X₀ G sup) (Bn.keeps F.keep) hb ⟨rfl, ?_⟩)
    refine wpAny_loadName_free S.kind S.cls rfl ⟨_, X2 _ _ hcell, rfl⟩ (wpAny_loadName_local S.kind S.lsn F.ns m1 ?_)
    refine ks_wpAny_isType_cls hD1 hD2 ⟨rfl, ?_⟩
    refine ks_wpAny_call_super hD1 hD2 I.at_ I.cls (fun c z => nomatch z) (looks_mroIn X2 hsub) (fun h3 e3 k3 => ?_)
    obtain ⟨F3, N3, l3⟩ := ks_newsPush (s := ⟨h₂, s.gens, s.drawn, tk0, s.os⟩) F N rfl e3 k3
    have I3 : InstAt h3 e (excObj C t0 none .none) C none := ⟨(N3 _ (.tail _ (.head _))).1, rfl, rfl, trivial⟩
    refine kxs_method (x := e) (ox := excObj C t0 none .none) KF F3 X₀ N3 (.head _) I3 st hm hB (by decide) (fun mq h4 F4 N4 l4 => ?_)
    refine kxs_callWith1 (i := initId) (x := e) N4 (.head _) ?_ (S.nst _)
    rw [S.nst]
    refine PySem.Calls.spliced_cons (mok prog w _ _ _ L m _ _ S.kind S.lpn rfl F4.ns m2 fun z t k => PySem.Calls.spliced_nil ⟨kxs_at N4 (.head _), ?_⟩)
    refine kxs_call (rest := [.str z t]) F4 X₀ N4 FB q (.head _) (.tail (Nat.ne_of_gt (l4 _ (.tail _ (.head _)))) (.tail (Nat.ne_of_gt (l3 _ (.head _))) (.head fun _ z => nomatch z))) (by show 1 ≤ sizeLine; rw [sizeLine_eq]; omega) (fun t1 h5 F5 N5 l5 => ?_)
    refine ks_wpAt_execs_cons (wpAt_of_wpAny (plainObj_wpAny_Assign_Attribute (wpAny_Name (wpAny_loadName_local S.kind S.lpn F5.ns m2 (wpAny_Name (wpAny_loadName_local S.kind S.lsn F5.ns m1 ?_) S.dbg.1)) S.dbg.2)))
    have n1 : t1 ≠ e := Nat.ne_of_gt (l5 _ (.tail _ (.tail _ (.head _))))
    have n2 : mq ≠ e := Nat.ne_of_gt (l4 _ (.tail _ (.head _)))
    have n3 : h₂.objs.size ≠ e := Nat.ne_of_gt (l3 _ (.head _))
    refine set_exc0 (t := t1) SF F5 X₀ N5 (.tail _ (.tail _ (.tail _ (.head _)))) sa hp tk hd rfl (.tail n1 (.tail n2 (.tail n3 (.head fun _ z => nomatch z)))) (by show (1 : Nat) ≤ 1000; omega) (fun dx h6 F6 N6 l6 => ?_)
    refine wpAt_of_wpAny (wpAny_execs_nil ?_)
    obtain ⟨g1, _, g3⟩ := N6 _ (.head _)
    exact fin dx t1 h6 _ _ _ F6.keep (N6 _ (.tail _ (.tail _ (.tail _ (.tail _ (.head _)))))).1 g1 rfl g3 (Nat.ne_of_gt (l6 _ (.tail _ (.tail _ (.tail _ (.head _))))))
  · show (scope.kind == .module && _) = false
    rw [S.kind]
    rfl
end Sm
set_option Elab.async false
set_option linter.all false
set_option maxRecDepth 100000
set_option maxHeartbeats 4000000
namespace Sm
open PySem PySem.Spec PyProof.Rows L2

section
variable {X : Cx} {bt : Bx} {W : WX} {N : List Str} {sc : Scope}
/-! ## raise X('..') -/
structure ExP (K : PySem.W.Frag) (C : Addr) : Prop where
  ex : ∃ (B newId initId : String) (bmB : List Value), ExcBaseFacts B newId initId bmB ∧ PySem.W.excIn K C bmB newId = true
  exC : PySem.W.subIn K (.ref C) (.type "BaseException") = some true
  tyC : PySem.W.typeIn K (.ref C) = some (.type "type")
  kC : PySem.W.keepIn K (.ref C) = true
def sRaise (k : Str) : MS := fun en s => .exc k [] en s
theorem ss_raise (h : Here X N sc) {C : Addr} {x m : Str} {j : Nat} {p p1 p2 pos : Pos} (hc : X.calm = true) (tk : Takes X W) (T : X.mg x = some (.ref C) ∧ ExP X.K C) (hg : gloB sc x = true := by kernel_rfl) : SS X bt W (.Raise (some (.Call (.Name x p) [.Constant (.str m) j p1] [] p2)) none pos) (sRaise x) := by
  obtain ⟨gC, T⟩ := T
  obtain ⟨B, newId, initId, bmB, FB, q⟩ := T.ex
  obtain ⟨g1, g2, _⟩ := gloB_ok h.sc hg
  refine PS.weak (ps_raise hc tk (pmk_own FB q gC T.kC (raises_own T.exC T.tyC) g1 g2)) fun E σ H => ?_
  rintro ⟨c, en, s, of, so, eo, po⟩
  exact po c H σ C none (by rw [of.mg]; exact gC) (.refl _ _) so eo (.inl ⟨rfl, rfl⟩)
/-! ## raise X(e), X's own __init__ keeping e -/
theorem pmk_init {C : Addr} {x f sn pn : Str} {msg e : Expr} {ta : TA} {p pos : Pos} {k : Nat} (T : ExI X.prog X.K C f sn pn msg) (at_ : AtCall (k + 1) X.A) (hg : Gl X x) (hm : X.mg x = some (.ref C)) (ha : PA X [e] ta) (hdb : (x == ("__debug__" : Str)) = false)
    (he : starEach [e] X.env = (false, eval e X.env) :: starEach [] X.env := by rfl) (hpl : (backTo pos (starEach [] X.env)).any (·.1) = false := by rfl) :
    PMk X (.Call (.Name x p) [e] [] pos) (fun σ H Q => ta σ H fun vs H1 => ∃ v, vs = [v] ∧ (∀ u, RelV v u → MsgOk msg pn u) ∧ ∀ dx, H1 dx = none → Q (.ref C) (some dx) (upd H1 dx (.xd [(f, v)]))) := by
  intro pins s σ H Q I h
  obtain ⟨B, newId, initId, bmB, fI, cc, cda, name, qual, params, body, scope, dV, kV, doc, pm, ct, oc, ccl, cl, an, od, cdd, cld, osl, ccs, csl, vs0, file, tf, cdC, FB, KF, SF, q, hi, hf, lk, hcd, hcell, hD, hsub, hms, hB, hp, hcode, hvs, hfile, S, bind⟩ := T.ex
  refine wpAny_Call_Name_kw (ld_glob I hg hm ?_ hdb)
  refine PySem.W.callWith_K (h₀ := X.base) I.ok.mod.kin T.kC (thn (ha.run pos pins s σ H _ I h) fun us s1 hh => ?_) he hpl
  obtain ⟨vs, H1, I1, r1, v, rfl, mok, hq⟩ := hh
  refine ⟨I1.kIn, ?_⟩
  obtain ⟨u, rfl, ru⟩ := vals1 r1
  show wpAny _ _ (call (.ref C) [u]) _ _ _
  obtain ⟨nm, N', qn, bs, bm, hdct, sn', sub, ab, col, dd, k0, k1, k2, k3, k5, hC, hT⟩ := PySem.W.excInit_of I1.kIn q
  obtain ⟨oI, hoI, hcI⟩ : ∃ oI, s1.heap.get? fI = some oI ∧ oI.cls = .type "function" := by
    obtain ⟨o, ho, hc⟩ := Option.map_eq_some_iff.mp (show (X.K.lookup fI).map (·.cls) = some (.type "function") from beq_iff_eq.mp hf)
    exact ⟨o, I1.kIn _ _ ho, hc⟩
  have hi' : PySem.W.Looks (model X.prog X.w) s1.heap (typeLookup (.ref C) "__init__") (some (.ref fI)) := PySem.W.looks_findIn I1.kIn hi
  obtain ⟨mb, hbn, hbb⟩ := I1.ok.mod.blt
  have up : ∀ b o, X.base.get? b = some o → s1.heap.get? b = some o := fun b o e => (I1.bs b o e).1
  have G : s1.heap.Ns mainGlobals X.mg := I1.ok.mod.glob.keeps up
  have Bn : s1.heap.Ns builtinsNs mb := hbn.keeps up
  have nl : s1.heap.NoLimit := I1.ok.mod.nolimit.keeps up
  have KX := I1.kIn
  obtain ⟨hh, g, d, tk, os⟩ := s1
  have kk : ∀ b o, hh.get? b = some o → ((hh.push (PySem.W.kdv_tup [u])).push (HandSPX.excO C hh.objs.size)).get? b = some o := fun b o e => Heap.get?_push_of_some _ (Heap.get?_push_of_some _ e)
  have hne : hh.get? (hh.objs.size + 1) = none := by
    cases z : hh.get? (hh.objs.size + 1) with
    | none => rfl
    | some o => exact absurd (Heap.lt_size z) (Nat.not_lt.mpr (Nat.le_succ _))
  refine wpAny_call (HandSPX.call_own FB hT hC hi' (fun self => PySem.W.exc_bind hoI hcI self) (by show 1 ≤ sizeLine; rw [sizeLine_eq]; omega) ?_)
  refine init_run (h₀ := hh) (e := hh.objs.size + 1) (t0 := hh.objs.size) (at_.room.make C [u] []).depth KX kk (by rw [Heap.size_push, Heap.size_push]; omega) G Bn ((hbb ("super" : Str) (by decide)).trans boot_super) nl (by heap_get) hne FB KF SF q lk hcd hcell hD hsub hms hB hp hcode hvs hfile S (bind _ _ _) T.sup T.st T.sa T.tk T.hd T.top (mok u ru) ?_
  intro dx t1 h' kt es n hkeep hex hdx hes hdn hde
  refine ⟨rfl, ?_⟩
  obtain ⟨Gh, ga, gb⟩ := restrict h' fun b => decide (b ≠ hh.objs.size + 1)
  have gk : ∀ b, b ≠ hh.objs.size + 1 → Gh.get? b = h'.get? b := fun b hb => ga b (decide_eq_true hb)
  have kG : ∀ b o, hh.get? b = some o → Gh.get? b = some o := fun b o e => by
    rw [gk b (fun z => by rw [z, hne] at e; cases e)]
    exact hkeep b o e
  have nd : H1 dx = none := I1.hok.gone hdn
  have ok : ObjOk X.prog X.w (upd H1 dx (.xd [(f, v)])) Gh dx (.xd [(f, v)]) := by
    subst hes
    refine ⟨fun y => if y = f then some u else none, ⟨_, _, n, (gk dx hde).trans hdx, rfl, fun e0 h0 => ?_, ?_, fun y => ?_⟩, fun y => ?_⟩
    · have : e0 = ⟨PyData.keyHash X.w.params f, .str f kt, u⟩ := by simpa using h0
      rw [this]
      exact ⟨_, _, rfl⟩
    · show List.Pairwise _ [_]
      exact List.pairwise_singleton _ _
    · show nsFind #[⟨PyData.keyHash X.w.params f, .str f kt, u⟩] y = _
      by_cases hy : y = f
      · subst hy
        simp [nsFind, findBy, Value.isStr]
      · have hy' : (f == y) = false := beq_eq_false_iff_ne.mpr fun z => hy z.symm
        simp [nsFind, findBy, Value.isStr, hy', hy]
    · show RelO (([(f, v)] : List (Str × V)).lookup y) (if y = f then some u else none)
      by_cases hy : y = f
      · subst hy
        rw [List.lookup_cons, beq_self_eq_true, if_pos rfl]
        exact ru
      · have hy' : (y == f) = false := beq_eq_false_iff_ne.mpr hy
        rw [List.lookup_cons, hy', if_neg hy]
        exact trivial
  have J : Inv X pins σ (upd H1 dx (.xd [(f, v)])) ⟨Gh, g, d, kt + 1, os⟩ := I1.laidN (t' := kt + 1) kG hdn nd ok
  refine ⟨hh.objs.size + 1, _, _, ⟨Gh, g, d, kt + 1, os⟩, _, .ref C, some dx, rfl, J, fun b o z => ?_, gb _ (by simp), hex, ⟨rfl, rfl⟩, rfl, rfl, ?_, rfl, J.bare, raises_own T.exC T.tyC, hq dx nd⟩
  · by_cases hb : b = hh.objs.size + 1
    · rw [hb, gb _ (by simp)] at z
      cases z
    · exact (gk b hb).symm.trans z
  · rw [upd_ne (Ne.symm hde)]
    exact I1.hok.gone hne
def sRaiseI (pm : D → Bool) (k f : Str) (fa : MA) : MS := fun en s => (fa en s).then en fun as s1 => match as with
  | [.d d] => if pm d = true then .exc k [(f, d)] en s1 else .bad
  | _ => .bad
/-- values that the text to the base can be made of -/
def PmOk (pm : D → Bool) (msg : Expr) (pn : Str) : Prop := ∀ (c : RC) (H : Hp) (d : D) (v : V) (u : Value), pm d = true → Rep c H d v → RelV v u → MsgOk msg pn u
theorem ss_raiseI (h : Here X N sc) {k : Nat} {C : Addr} {x f sn pn : Str} {msg e : Expr} {fa : MA} {pm : D → Bool} {p p2 pos : Pos} (hc : X.calm = true) (tk : Takes X W) (at_ : AtCall (k + 1) X.A) (T : X.mg x = some (.ref C) ∧ ExI X.prog X.K C f sn pn msg) (hm : PmOk pm msg pn) (ha : SA X bt W [e] fa) (hg : gloB sc x = true := by kernel_rfl)
    (he : starEach [e] X.env = (false, eval e X.env) :: starEach [] X.env := by rfl) (hpl : (backTo p2 (starEach [] X.env)).any (·.1) = false := by rfl) : SS X bt W (.Raise (some (.Call (.Name x p) [e] [] p2)) none pos) (sRaiseI pm x f fa) := by
  obtain ⟨gC, T⟩ := T
  obtain ⟨g1, g2, _⟩ := gloB_ok h.sc hg
  refine PS.weak (ps_raise hc tk (pmk_init T at_ g1 gC ha g2 he hpl)) fun E σ H => ?_
  rintro ⟨c, en, s, of, so, eo, po⟩
  refine ⟨c, en, s, of, so, eo, po.then eo fun as s1 c1 H1 v e1 so1 eo1 r1 po1 => ?_⟩
  split at po1
  · split at po1
    · rename_i d hd
      obtain ⟨z, rfl, rz⟩ := r1.one
      cases rz with | d rz =>
      refine ⟨z, rfl, fun u ru => hm c1 H1 d z u hd rz ru, fun dx hx => ?_⟩
      refine po1 c1 _ σ C (some dx) (by rw [(e1.of of).mg]; exact gC) (.fresh hx) (so1.fresh hx) (eo1.mono (.fresh hx)) (.inr ⟨dx, _, rfl, upd_same, so1.exF hx, .cons (Rep.mono (.fresh hx) _ _ rz) .nil⟩)
    · exact po1.elim
  · exact po1.elim
/-! ## f'..{x}' of None and of whole numbers -/
def pmNI : D → Bool
  | .non => true
  | .int i => decide (i.natAbs.log2 < 1920)
  | _ => false
theorem nostar_js {v : List Expr} {p : Pos} : NoStar (.JoinedStr v p) := fun _ => rfl
theorem msg_fmt {a : Str} {j : Nat} {pn : Str} {p1 p2 p3 p4 : Pos} (ha : a.length ≤ 100) (hd : (pn == ("__debug__" : Str)) = false) : PmOk pmNI (.JoinedStr [.Constant (.str a) j p1, .FormattedValue (.Name pn p2) (-1) none p3] p4) pn := by
  intro c H d v u hp rd ru prog w A E env L m s Q hk hl hL hns hm hq
  have e0 : evalEach [.Constant (.str a) j p1, .FormattedValue (.Name pn p2) (-1) none p3] env = [eval (.Constant (.str a) j p1) env, eval (.FormattedValue (.Name pn p2) (-1) none p3) env] := by simp [evalEach]
  refine wpAny_JoinedStr ?_
  rw [e0]
  have s100 : (100 : Nat) ≤ sizeLine := by rw [sizeLine_eq]; omega
  have z0 : (Str.empty ++ a).length = a.length := by
    show (Str.empty.cps ++ a.cps).size = _
    rw [Array.size_append]
    show 0 + _ = _
    rw [Nat.zero_add]
    rfl
  refine PySem.Calls.Constant_str ⟨a, _, rfl, by rw [z0]; omega, ?_⟩
  refine wpAny_FormattedValue_plain (wpAny_Name (wpAny_loadName_local hk hl (by rw [hL]; exact hns) hm ?_) hd)
  have len : ∀ y : Str, ((Str.empty ++ a) ++ y).length = a.length + y.length := fun y => by
    show ((Str.empty ++ a).cps ++ y.cps).size = _
    rw [Array.size_append]
    show (Str.empty ++ a).length + _ = _
    rw [z0]
    rfl
  cases d <;> first | (cases hp; done) | skip
  · cases rd
    cases (show u = Value.none from ru)
    refine wpAny_formatField_none ⟨_, _, rfl, by rw [len]; show a.length + 4 ≤ _; rw [sizeLine_eq]; omega, ?_⟩
    exact ⟨by rw [len]; show a.length + 4 ≤ _; rw [sizeLine_eq]; omega, hq _ _ _⟩
  · rename_i i
    cases rd
    obtain ⟨t, rfl⟩ := ru
    have hi : i.natAbs.log2 < 1920 := of_decide_eq_true hp
    have hz : (toString i : Str).length ≤ 2000 := by
      have e := int_text_length_le (k := 1920) (by decide) hi
      show (Str.ofString (toString i)).length ≤ 2000
      rw [PySem.ofString_length]
      omega
    refine wpAny_formatField_int hi ⟨_, _, rfl, by rw [len]; rw [sizeLine_eq]; omega, ?_⟩
    exact ⟨by rw [len]; rw [sizeLine_eq]; omega, hq _ _ _⟩
end
end Sm
set_option Elab.async false
set_option linter.all false
set_option maxRecDepth 100000
set_option maxHeartbeats 4000000
namespace Sm
open PySem PySem.Spec PyProof.Rows L2

/-! ## a head's facts: the defs, the error classes' own defs, what is looked up -/
abbrev FnI : Type := Option (Str × Str × Arguments × FuncBody × Scope × Addr × List Str × Addr)
def fnI (K : PySem.W.Frag) (x : Str) : FnI := match K.lookup (He.ma K (He.ga K x) "__init__") with
  | some ⟨_, _, .func fd, _⟩ => some (fd.name, fd.qualname, fd.params, fd.body, fd.scope, fd.globals, fd.closure.map (·.1), fd.builtins)
  | _ => none
/-- an error class with an __init__ of its own -/
structure IniD where
  cls : Str
  qual : Str
  params : Arguments
  body : List Stmt
  scope : Scope
  B : String
  newId : String
  initId : String
  bmB : List Value
  f : Str
def IniD.val (d : IniD) : FnI := some ("__init__", d.qual, d.params, .stmts d.body, d.scope, mainGlobals, ["__class__"], builtinsNs)
def fnB (main : Str) (K : PySem.W.Frag) (C fI : Addr) (q : Str) : Bool := match K.lookup fI with
  | some ⟨_, _, .func fd, _⟩ => (PySem.W.codeIn K fd.code q && (match fd.defaults with
      | .none => true
      | _ => false)) && ((match fd.closure with
      | [(_, cc)] => (match K.lookup cc with
        | some ⟨_, _, .cell (some (.ref D)), _⟩ => decide (D = C)
        | _ => false)
      | _ => false) && (match fd.code with
      | .ref cda => (match K.lookup cda with
        | some ⟨_, _, .fields vs, _⟩ => (match (vs[2]? : Option Value) with
          | some (.str file _) => main == file
          | _ => false)
        | _ => false)
      | _ => false))
  | _ => false
def IniD.ok (main : Str) (K : PySem.W.Frag) (d : IniD) : Bool := PySem.W.excInitIn K (He.ga K d.cls) d.bmB d.newId && (decide (PySem.W.findIn K (.ref (He.ga K d.cls)) "__init__" = some (some (.ref (He.ma K (He.ga K d.cls) "__init__")))) &&
  (PySem.W.isFn K (.ref (He.ma K (He.ga K d.cls) "__init__")) && (fnB main K (He.ga K d.cls) (He.ma K (He.ga K d.cls) "__init__") d.qual && ((PySem.W.clsIn K (He.ga K d.cls)).isSome && (decide (PySem.W.mroIn K (He.ga K d.cls) (.ref (He.ga K d.cls)) = some true) &&
  (decide (PySem.W.ks_superIn K (He.ga K d.cls) (He.ga K d.cls) "__init__" = some (some (.builtin d.initId))) && (decide (PySem.W.subIn K (.ref (He.ga K d.cls)) (.type d.B) = some true) && (PySem.W.excOver K (He.ga K d.cls) d.bmB && (decide (PySem.W.nsIn K mainGlobals "super" = some none) &&
  (decide (PySem.W.nsIn K cStatics "thirdparty.any" = some none) && (decide (PySem.W.findIn K (.ref (He.ga K d.cls)) "__setattr__" = some (some (.builtin "object.__setattr__"))) && (decide (PySem.W.takerIn K (He.ga K d.cls) d.f = some none) && (PySem.W.hasDictIn K (He.ga K d.cls) &&
  (decide (PySem.W.subIn K (.ref (He.ga K d.cls)) (.type "BaseException") = some true) && (decide (PySem.W.typeIn K (.ref (He.ga K d.cls)) = some (.type "type")) && PySem.W.keepIn K (.ref (He.ga K d.cls)))))))))))))))))
theorem ini_ok {prog : Program} {K : PySem.W.Frag} {d : IniD} {sn pn : Str} {msg : Expr} (e : fnI K d.cls = d.val) (h : d.ok prog.main.file K = true) (FB : ExcBaseFacts d.B d.newId d.initId d.bmB) (KF : PySem.W.KxsFacts d.B d.initId) (SF : StoreFacts d.B d.bmB "object.__setattr__" "object")
    (S : InitSt d.body d.scope d.params sn pn d.f msg) (top : (prog.main.scope.names.lookup ("super" : Str)).isSome = false)
    (bind : ∀ (dV kV doc pm cdv ct : Value) (an : Option Addr) (cc : Addr) (s : Shared) (a b : Value), dV = .none → BindsTo s (PySem.W.ksFn "__init__" d.qual d.params d.body d.scope dV kV doc pm an cdv ct cc) ⟨[a, b], []⟩ [(sn, a), (pn, b)]) : ExI prog K (He.ga K d.cls) d.f sn pn msg := by
  unfold IniD.ok at h
  simp only [Bool.and_eq_true, decide_eq_true_eq] at h
  obtain ⟨h1, h2, h3, h4, h5, h6, h7, h8, h9, h10, h11, h12, h13, h14, h15, h16, h17⟩ := h
  obtain ⟨cdC, hD⟩ := Option.isSome_iff_exists.mp h5
  unfold fnI at e
  unfold fnB at h4
  cases q : K.lookup (He.ma K (He.ga K d.cls) "__init__") with
  | none => rw [q] at h4; cases h4
  | some o =>
    obtain ⟨oc, od, dt, osl⟩ := o
    rw [q] at h4 e
    cases dt with
    | func fd =>
      obtain ⟨n1, n2, n3, n4, n5, n6, n7, n8, n9, n10, n11, n12, n13, n14, n15⟩ := fd
      have e2 : (some (n1, n2, n3, n4, n5, n6, n7.map (·.1), n15) : FnI) = (some (("__init__" : Str), d.qual, d.params, FuncBody.stmts d.body, d.scope, mainGlobals, [("__class__" : Str)], builtinsNs) : FnI) := e
      simp only [Option.some.injEq, Prod.mk.injEq] at e2
      obtain ⟨i1, i2, i3, i4, i5, i6, i7, i8⟩ := e2
      dsimp only at h4
      simp only [Bool.and_eq_true] at h4
      obtain ⟨⟨j1, j0⟩, j2, j3⟩ := h4
      have hdn : n8 = Value.none := by cases n8 <;> first | rfl | cases j0
      split at j2
      · rename_i cn cc
        obtain rfl : cn = ("__class__" : Str) := by simpa using i7
        split at j2
        · rename_i c1 c2 D c3 hc
          obtain rfl := of_decide_eq_true j2
          split at j3
          · split at j3
            · split at j3
              · rename_i cda _ _ _ vs _ hcode _ file tf hvs
                subst i1 i2 i3 i4 i5 i6 i8
                exact ⟨⟨_, _, _, _, _, cc, cda, _, _, _, _, _, n8, n9, n10, n11, n14, _, _, _, _, _, _, _, _, _, _, vs, file, tf, cdC, FB, KF, SF, h1, h2, h3, q, j1, hc, hD, h6, h7, h8, h9, hcode, hvs, j3, S, fun s a b => bind _ _ _ _ _ _ _ _ s a b hdn⟩, h10, h11, h12, h13, h14, top, h15, h16, h17⟩
              · cases j3
            · cases j3
          · cases j3
        · cases j2
      · cases j2
    | _ => cases h4
def clsBody (s : Stmt) : List Stmt := match s with
  | .ClassDef (body := b) .. => b
  | _ => []
def initMsg : List Stmt → Expr
  | .Expr (.Call _ (m :: _) _ _) _ :: _ => m
  | _ => .Constant .none 0 ⟨0, 0, 0, 0⟩
/-! ### the Hook -/
abbrev AlX : Type := Bool × List He.FnW × List FnI
section
variable (main : Str) (fa : List He.Fa) (fn : List He.DefD) (ini : List IniD) (ex : List (PySem.W.Frag → Bool))
def obsX (K : PySem.W.Frag) : AlX := ((fa.all fun f => f.ok K) && ((fn.all fun d => d.ok K) && ((ini.all fun d => d.ok main K) && ex.all fun b => b K)), fn.map fun d => He.fnW K d.at_, ini.map fun d => fnI K d.cls)
def valX : AlX := (true, fn.map He.DefD.val, ini.map IniD.val)
def SaysX (K : PySem.W.Frag) : Prop := obsX main fa fn ini ex K = valX fn ini
def asX (g : Addr → Option Obj) : Nat → List Addr
  | 0 => [mainGlobals, cStatics]
  | n + 1 => He.growD g (asX g n)
def obsXG (n : Nat) (g : Addr → Option Obj) : AlX := obsX main fa fn ini ex (He.frG g (asX g n))
def hookX (n : Nat) : PySem.W.Hook where
  α := AlX
  obs := fun s => obsXG main fa fn ini ex n s.heap.get?
  val := fun _ => valX fn ini
  says := fun _ h => ∃ K : PySem.W.Frag, K.In h ∧ SaysX main fa fn ini ex K
  of := fun _ _ e => ⟨_, He.frG_in, e⟩
  keeps := fun _ _ _ ⟨K, hK, c⟩ k => ⟨K, PySem.W.Frag.In.keeps hK k, c⟩
theorem obsXG_eq {n : Nat} {g : Addr → Option Obj} {s : Shared} (h : ∀ a, g a = s.heap.get? a) : obsXG main fa fn ini ex n g = (hookX main fa fn ini ex n).obs s := by
  have e : g = s.heap.get? := funext h
  rw [e]
  rfl
end
section
variable {main : Str} {fa : List He.Fa} {fn : List He.DefD} {ini : List IniD} {ex : List (PySem.W.Frag → Bool)} {K : PySem.W.Frag}
theorem SaysX.all (c : SaysX main fa fn ini ex K) : (fa.all fun f => f.ok K) = true ∧ (fn.all fun d => d.ok K) = true ∧ (ini.all fun d => d.ok main K) = true ∧ (ex.all fun b => b K) = true := by
  have h : ((fa.all fun f => f.ok K) && ((fn.all fun d => d.ok K) && ((ini.all fun d => d.ok main K) && ex.all fun b => b K))) = true := congrArg (fun z : AlX => z.1) c
  simpa only [Bool.and_eq_true] using h
theorem SaysX.toD (c : SaysX main fa fn ini ex K) : He.SaysD fa fn K := by
  obtain ⟨h1, h2, _, _⟩ := c.all
  have e : (fn.map fun d => He.fnW K d.at_) = fn.map He.DefD.val := congrArg (fun z : AlX => z.2.1) c
  show ((fa.all fun f => f.ok K) && (fn.all fun d => d.ok K), fn.map fun d => He.fnW K d.at_) = (true, fn.map He.DefD.val)
  rw [h1, h2, e]
  rfl
theorem SaysX.fact (c : SaysX main fa fn ini ex K) (i : Nat) {f : He.Fa} (h : fa[i]? = some f := by rfl) : f.ok K = true := c.toD.fact i h
theorem SaysX.def_ (c : SaysX main fa fn ini ex K) (i : Nat) {d : He.DefD} (h : fn[i]? = some d := by rfl) : ∃ fd, FunD K d.name d.qual d.params d.body d.scope (d.dvs K) (d.kws K) (He.fAd K d.at_) fd := c.toD.def_ i h
theorem SaysX.exA (c : SaysX main fa fn ini ex K) (i : Nat) {b : PySem.W.Frag → Bool} (h : ex[i]? = some b := by rfl) : b K = true := List.all_eq_true.mp c.all.2.2.2 b (List.mem_of_getElem? h)
theorem SaysX.iniA (c : SaysX main fa fn ini ex K) (i : Nat) {d : IniD} (h : ini[i]? = some d := by rfl) : fnI K d.cls = d.val ∧ d.ok main K = true := by
  refine ⟨?_, List.all_eq_true.mp c.all.2.2.1 d (List.mem_of_getElem? h)⟩
  have e : (ini.map fun d => fnI K d.cls) = ini.map IniD.val := congrArg (fun z : AlX => z.2.2) c
  have e2 : (ini.map fun d => fnI K d.cls)[i]? = (ini.map IniD.val)[i]? := by rw [e]
  rw [List.getElem?_map, List.getElem?_map, h] at e2
  exact Option.some.inj e2
end
theorem names_of {X : Cx} {N : List Str} {sc : Scope} (h : Here X N sc) {x : Str} {C : Addr} (hm : X.mg x = some (.ref C)) (hg : gloB sc x = true := by kernel_rfl) : Names X x (.ref C) := by
  obtain ⟨g1, g2, _⟩ := gloB_ok h.sc hg
  exact ⟨g1, g2, .inl hm⟩
theorem slot_of {X : Cx} {N : List Str} {sc : Scope} (h : Here X N sc) {n : Str} {i : Nat} (hi : N[i]? = some n := by rfl) (hl : lclB sc n = true := by kernel_rfl) : SlotAt X (some n) (some i) :=
  ⟨by rw [h.N]; exact hi, by show X.env.scope.names.lookup n = _; rw [h.sc]; exact lclB_ok hl⟩
/-- a plain error class -/
theorem exp_of {K : PySem.W.Frag} {x : Str} (h : (He.Fa.exc x).ok K = true) : ExP K (He.ga K x) := by
  obtain ⟨h1, h2, h3, h4⟩ := He.exc_ok h
  exact ⟨⟨_, _, _, _, F.excBase_ValueError, h1⟩, h3, h4, h2⟩
end Sm
set_option Elab.async false
set_option linter.all false
set_option maxRecDepth 100000
set_option maxHeartbeats 4000000
namespace Sm
open PySem PySem.Spec PyProof.Rows L2

/-! ## list(text) -/
def sgD (z : Str) : List D := z.cps.toList.map fun k => .str ⟨#[k]⟩
def sgV (z : Str) : List V := z.cps.toList.map fun k => .str ⟨#[k]⟩
theorem sg_rep (c : RC) (H : Hp) : ∀ l : List Nat, Reps c H (l.map fun k => D.str ⟨#[k]⟩) (l.map fun k => V.str ⟨#[k]⟩)
  | [] => .nil
  | _ :: l => .cons (.str _) (sg_rep c H l)
theorem valsIx : ∀ {xs : List V} {us : List Value}, us.length = xs.length → (∀ (j : Nat) (u : Value), us[j]? = some u → ∃ x, xs[j]? = some x ∧ RelV x u) → Vals xs us := by
  intro xs
  induction xs with
  | nil =>
    intro us h _
    rw [List.length_nil] at h
    rw [List.length_eq_zero_iff.mp h]
    exact .nil
  | cons x xs ih =>
    intro us h k
    cases us with
    | nil => cases h
    | cons u us =>
      obtain ⟨y, e, r⟩ := k 0 u rfl
      have e : some x = some y := e
      injection e with e
      rw [← e] at r
      exact .cons r (ih (by simpa using h) fun j v hj => k (j + 1) v hj)
section
variable {X : Cx} {bt : Bx}
theorem call_listS (hc : X.calm = true) : CallR X (.type "list") (fun xs H Q => ∃ z, xs = [.str z] ∧ z.length ≤ sizeLine ∧ ∀ q, H q = none → Q (.ref q) (upd H q (.lst (sgV z)))) := by
  intro pins s σ H xs us Q I r h
  obtain ⟨z, rfl, hz, q⟩ := h
  obtain ⟨u, rfl, t, rfl⟩ := vals1 r
  have hz' : z.cps.size ≤ sizeLine := hz
  refine PySem.call_list_str (I.ok.hd hc) z t (fun h' tk acc c' hk e hi => ?_) hz'
  have hl : (sgV z).length = z.cps.size := by unfold sgV; rw [List.length_map, Array.length_toList]
  refine ⟨.ref s.heap.objs.size, upd H s.heap.objs.size (.lst (sgV z)), I.laid hk (Nat.le_refl _) ⟨by rw [hl]; exact hz', acc.toList, c', ?_, by rw [Array.toArray_toList]; exact e⟩, rfl, q _ (I.hok.fresh (Nat.le_refl _))⟩
  refine valsIx (by rw [hl, Array.length_toList]; exact hi.1) fun j u hj => ?_
  obtain ⟨c, t', hc, rfl⟩ := hi.2 j u (by rw [← Array.getElem?_toList]; exact hj)
  exact ⟨.str ⟨#[c]⟩, by unfold sgV; rw [List.getElem?_map, Array.getElem?_toList, hc]; rfl, ⟨_, rfl⟩⟩
def lisSV : GC := fun _ as => match as with
  | [.d (.str z)] => if z.length ≤ sizeLine then some (.d (.lst (sgD z))) else none
  | _ => none
theorem clr_listS (hc : X.calm = true) : Clr X bt (.type "list") lisSV := .of (call_listS hc) fun xs H Q h => by
  obtain ⟨c, S, as, r, of, so, ra, hg, k⟩ := h
  unfold lisSV at hg
  split at hg
  · split at hg
    · cases hg
      rename_i hz
      obtain ⟨x, rfl, rx⟩ := ra.one
      cases rx with | d rx =>
      cases rx
      exact ⟨_, rfl, hz, fun p hp => k _ _ (.fresh hp) (so.fresh hp) (new_lst so hp (sg_rep _ _ _))⟩
    · cases hg
  · cases hg
def lisV : GC := gorC lisSV listV
theorem clr_lis (hc : X.calm = true) : Clr X bt (.type "list") lisV := .or (clr_listS hc) clr_list
end
end Sm
set_option Elab.async false
set_option linter.all false
set_option maxRecDepth 100000
set_option maxHeartbeats 4000000
namespace L81
open PySem PySem.Spec PyProof.Rows L2 Sm
def top (i : Nat) : Stmt := PySem.Challenge.pw_amongliars_k81_whole_texts_of_numbers_ro.main.body.getD i (.Pass ⟨0, 0, 0, 0⟩)

def c_MOST_WRITTEN : Int := 10 ^ 4000
def xm_ParseError : Str → Option Bool := fun k => if k = "ParseError" then some true else none
def b_is_integer : MS := (sRet (eAndV (eCB isiB (aCons (eVar 0) (aCons (eC (.bty "int")) aNil))) (eNotV (eCB isiB (aCons (eVar 0) (aCons (eC (.bty "bool")) aNil))))))
def N_is_integer : List Str := ["value"]
def M_is_integer : MF := puF (puR 1 b_is_integer)
def b_common_divisor : MS := (sSeq (sPar2 0 1 (aCons (eCB absV' (aCons (eVar 0) aNil)) (aCons (eCB absV' (aCons (eVar 1) aNil)) aNil))) (sSeq (sWh (fun en _ => natAt en 1 + 1) (eTst (eBin (gIb fun i j => decide (j < i)) (eVar 1) (eC (.int 0)))) (sPar2 0 1 (aCons (eVar 1) (aCons (eBin modV (eVar 0) (eVar 1)) aNil)))) (sRet (eVar 0))))
def N_common_divisor : List Str := ["one", "other"]
def M_common_divisor : MF := puF (puR 2 b_common_divisor)
def b_is_number : MS := (sSeq (sIf (eOr (eNot (eTst (eCB isiB (aCons (eVar 0) (aCons (eC (.bty "tuple")) aNil))))) (eOr (eTst (eBin (eqV true) (eCB lenV (aCons (eVar 0) aNil)) (eC (.int 2)))) (eNot (eTst (eCB (anyV false) (aCons (eLc [1] (iV (eVar 0)) (gtName 1) eYes (eFn 1 M_is_integer (aCons (eVar 1) aNil))) aNil)))))) (sRet (eC (.bl false))) sNx) (sRet (eAndV (eBin (gIb fun i j => decide (j ≤ i)) (eBin ixV (eVar 0) (eC (.int 1))) (eC (.int 1))) (eBin (eqV false) (eFn 2 M_common_divisor (aCons (eBin ixV (eVar 0) (eC (.int 0))) (aCons (eBin ixV (eVar 0) (eC (.int 1))) aNil))) (eC (.int 1))))))
def N_is_number : List Str := ["value", "one"]
def M_is_number : MF := puF (puR 2 b_is_number)
def b_require_number : MS := (sIf (eNot (eTst (eFn 1 M_is_number (aCons (eVar 0) aNil)))) sNo sNx)
def N_require_number : List Str := ["value"]
def M_require_number : MF := puF (puR 1 b_require_number)
def b_is_plain_row : MS := (sRet (eAndV (eCB isiB (aCons (eVar 1) (aCons (eC (.bty "tuple")) aNil))) (eAndV (eBin (eqV false) (eCB lenV (aCons (eVar 1) aNil)) (eVar 0)) (eCB (anyV false) (aCons (eLc [2] (iV (eVar 1)) (gtName 2) eYes (eFn 1 M_is_number (aCons (eVar 2) aNil))) aNil)))))
def N_is_plain_row : List Str := ["width", "value", "one"]
def M_is_plain_row : MF := puF (puR 3 b_is_plain_row)
def b_require_text : MS := (sSeq (sIf (eTst (eBin (gIb fun i j => decide (j < i)) (eCB lenV (aCons (eVar 0) aNil)) (eC (.int 9000)))) sNo sNx) (sRet (eVar 0)))
def N_require_text : List Str := ["text"]
def M_require_text : MF := puF (puR 1 b_require_text)
def b_require_sizes : MS := (sFor (iV (eVar 0)) (gtName 1) (sIf (eTst (eCB (anyV true) (aCons (eLc [2, 3] (iV (eVar 1)) (gtTup 2 (gtCons (gtName 2) (gtCons (gtName 3) gtNil))) eYes (eOrV (eBin (gIb fun i j => decide (j ≤ i)) (eCB absV' (aCons (eVar 2) aNil)) (eC (.int c_MOST_WRITTEN))) (eBin (gIb fun i j => decide (j ≤ i)) (eVar 3) (eC (.int c_MOST_WRITTEN))))) aNil))) sNo sNx))
def N_require_sizes : List Str := ["rows", "row", "top", "bottom"]
def M_require_sizes : MF := puF (puR 4 b_require_sizes)
def b_number_text : MS := (sRet (eIf (eTst (eBin (eqV false) (eBin ixV (eVar 0) (eC (.int 1))) (eC (.int 1)))) (eCB strV (aCons (eBin ixV (eVar 0) (eC (.int 0))) aNil)) (eJs [(eFmt (eBin ixV (eVar 0) (eC (.int 0)))), (eC (.str "/")), (eFmt (eBin ixV (eVar 0) (eC (.int 1))))])))
def N_number_text : List Str := ["number"]
def M_number_text : MF := puF (puR 1 b_number_text)
def b_row_text : MS := (sRet (eIf (eTst (eBin (eqV false) (eVar 0) (eTup aNil))) (eC (.str "none")) (eM1 joinV (eC (.str " ")) (eLc [1] (iV (eVar 0)) (gtName 1) eYes (eFn 1 M_number_text (aCons (eVar 1) aNil))))))
def N_row_text : List Str := ["row", "number"]
def M_row_text : MF := puF (puR 2 b_row_text)
def b_format_number : MS := (sSeq (sDrop (eFn 1 M_require_number (aCons (eVar 0) aNil))) (sSeq (sDrop (eFn 1 M_require_sizes (aCons (eLst (aCons (eTup (aCons (eVar 0) aNil)) aNil)) aNil))) (sRet (eFn 1 M_require_text (aCons (eFn 1 M_number_text (aCons (eVar 0) aNil)) aNil)))))
def N_format_number : List Str := ["value"]
def M_format_number : MF := puF (puR 1 b_format_number)
def b_is_any_row : MS := (sRet (eAndV (eCB isiB (aCons (eVar 0) (aCons (eC (.bty "tuple")) aNil))) (eFn 2 M_is_plain_row (aCons (eCB lenV (aCons (eVar 0) aNil)) (aCons (eVar 0) aNil)))))
def N_is_any_row : List Str := ["value"]
def M_is_any_row : MF := puF (puR 1 b_is_any_row)
def b_format_row : MS := (sSeq (sIf (eNot (eTst (eFn 1 M_is_any_row (aCons (eVar 0) aNil)))) sNo sNx) (sSeq (sDrop (eFn 1 M_require_sizes (aCons (eLst (aCons (eVar 0) aNil)) aNil))) (sRet (eFn 1 M_require_text (aCons (eFn 1 M_row_text (aCons (eVar 0) aNil)) aNil)))))
def N_format_row : List Str := ["value"]
def M_format_row : MF := puF (puR 1 b_format_row)
def b_whole_in : MS := (sSeq (sIf (eOr (eTst (eBin (eqV false) (eVar 0) (eC (.str "")))) (eOr (eTst (eCB (anyV true) (aCons (eLc [1] (iV (eVar 0)) (gtName 1) eYes (eBin (inV true) (eVar 1) (eC (.str "0123456789")))) aNil))) (eAnd (eTst (eBin (eqV false) (eBin ixV (eVar 0) (eC (.int 0))) (eC (.str "0")))) (eTst (eBin (eqV true) (eVar 0) (eC (.str "0"))))))) (sRet (eC .non)) sNx) (sRet (eIf (eTst (eBin (gIb fun i j => decide (i ≤ j)) (eCB lenV (aCons (eVar 0) aNil)) (eC (.int 4000)))) (eCB intV (aCons (eVar 0) aNil)) (eC .non))))
def N_whole_in : List Str := ["word", "sign"]
def M_whole_in : MF := puF (puR 2 b_whole_in)
def b_number_in : MS := (sSeq (sSet 1 (eM1 splitV (eIf (eTst (eBin (eqV false) (eSl (eVar 0) oNone (oSome (eC (.int 1)))) (eC (.str "-")))) (eSl (eVar 0) (oSome (eC (.int 1))) oNone) (eVar 0)) (eC (.str "/")))) (sSeq (sSet 2 (eLc [5] (iV (eVar 1)) (gtName 5) eYes (eFn 1 M_whole_in (aCons (eVar 5) aNil)))) (sSeq (sIf (eOr (eTst (eBin (gIb fun i j => decide (j < i)) (eCB lenV (aCons (eVar 2) aNil)) (eC (.int 2)))) (eTst (eBin (inV false) (eC .non) (eVar 2)))) (sRet (eC .non)) sNx) (sSeq (sSet 3 (eIf (eTst (eBin (eqV false) (eSl (eVar 0) oNone (oSome (eC (.int 1)))) (eC (.str "-")))) (eBin subV (eC (.int 0)) (eBin ixV (eVar 2) (eC (.int 0)))) (eBin ixV (eVar 2) (eC (.int 0))))) (sSeq (sSet 4 (eTup (aCons (eVar 3) (aCons (eIf (eTst (eBin (eqV false) (eCB lenV (aCons (eVar 2) aNil)) (eC (.int 1)))) (eC (.int 1)) (eBin ixV (eVar 2) (eC (.int 1)))) aNil)))) (sRet (eIf (eAnd (eTst (eFn 1 M_is_number (aCons (eVar 4) aNil))) (eTst (eBin (eqV false) (eFn 1 M_number_text (aCons (eVar 4) aNil)) (eVar 0)))) (eVar 4) (eC .non))))))))
def N_number_in : List Str := ["word", "parts", "numbers", "top", "found", "part"]
def M_number_in : MF := puF (puR 6 b_number_in)
def b_row_in : MS := (sSeq (sIf (eTst (eBin (eqV false) (eVar 0) (eC (.str "none")))) (sRet (eTup aNil)) sNx) (sSeq (sSet 1 (eLc [2] (iV (eM1 splitV (eVar 0) (eC (.str " ")))) (gtName 2) eYes (eFn 1 M_number_in (aCons (eVar 2) aNil)))) (sRet (eIf (eTst (eBin (inV false) (eC .non) (eVar 1))) (eC .non) (eCB tupV (aCons (eVar 1) aNil))))))
def N_row_in : List Str := ["text", "numbers", "word"]
def M_row_in : MF := puF (puR 3 b_row_in)
def b_lines_of : MS := (sSeq (sIf (eNot (eTst (eCB isiB (aCons (eVar 0) (aCons (eC (.bty "str")) aNil))))) sNo sNx) (sRet (eM1 splitV (eVar 0) (eC (.str "\n")))))
def N_lines_of : List Str := ["text"]
def M_lines_of : MF := puF (puR 1 b_lines_of)
def b_telling_text : MS := (sRet (eM1 joinV (eC (.str ", ")) (eLc [1] (iV (eVar 0)) (gtName 1) eYes (eFn 1 M_row_text (aCons (eVar 1) aNil)))))
def N_telling_text : List Str := ["telling", "row"]
def M_telling_text : MF := puF (puR 2 b_telling_text)
def b_format_telling : MS := (sSeq (sIf (eOr (eNot (eTst (eCB isiB (aCons (eVar 0) (aCons (eC (.bty "tuple")) aNil))))) (eOr (eTst (eBin (eqV false) (eVar 0) (eTup aNil))) (eNot (eTst (eCB (anyV false) (aCons (eLc [1] (iV (eVar 0)) (gtName 1) eYes (eFn 1 M_is_any_row (aCons (eVar 1) aNil))) aNil)))))) sNo sNx) (sSeq (sDrop (eFn 1 M_require_sizes (aCons (eVar 0) aNil))) (sRet (eFn 1 M_require_text (aCons (eFn 1 M_telling_text (aCons (eVar 0) aNil)) aNil)))))
def N_format_telling : List Str := ["value", "row"]
def M_format_telling : MF := puF (puR 2 b_format_telling)
def b_telling_in : MS := (sSeq (sSet 1 (eLc [2] (iV (eM1 splitV (eVar 0) (eC (.str ", ")))) (gtName 2) eYes (eFn 1 M_row_in (aCons (eVar 2) aNil)))) (sRet (eIf (eTst (eBin (inV false) (eC .non) (eVar 1))) (eC .non) (eCB tupV (aCons (eVar 1) aNil)))))
def N_telling_in : List Str := ["text", "rows", "part"]
def M_telling_in : MF := puF (puR 3 b_telling_in)
def T_read : TabF := fun x => if x = "number_in" then some (1, M_number_in) else if x = "row_in" then some (1, M_row_in) else if x = "telling_in" then some (1, M_telling_in) else none
def b__law_dice : MS := (sSeq (sSet 2 (eIf (eTst (eBin (gIb fun i j => decide (i < j)) (eVar 1) (eCB lenV (aCons (eVar 0) aNil)))) (eCB intV (aCons (eBin ixV (eVar 0) (eVar 1)) aNil)) (eBin addV (eBin mulV (eC (.int 131)) (eVar 1)) (eC (.int 37))))) (sSeq (sSet 3 (eBin modV (eCB intV (aCons (eCB absV' (aCons (eVar 2) aNil)) aNil)) (eBin powV (eBin powV (eC (.int 10)) (eC (.int 53))) (eC (.int 6))))) (sSeq (sSet 4 (eBin addV (eBin addV (eBin addV (eBin mulV (eBin modV (eVar 3) (eC (.int 2305843009213693907))) (eC (.int 73))) (eBin mulV (eC (.int 619)) (eVar 1))) (eBin mulV (eC (.int 41)) (eCB intV (aCons (eBin (gIb fun i j => decide (i < j)) (eVar 2) (eC (.int 0))) aNil)))) (eC (.int 17)))) (sRet (eLstM (aCons (eCB maxV (aCons (eC (.int 0)) (aCons (eBin subV (eVar 3) (eBin powV (eC (.int 10)) (eC (.int 16)))) aNil))) (aCons (eVar 4) (aCons (eC (.int 0)) aNil))))))))
def N__law_dice : List Str := ["script", "spot", "cell", "great", "seed"]
def M__law_dice : MF := stF 5 b__law_dice
def b__law_roll : MS := (sSeq (sIf (eTst (eBin (gIb fun i j => decide (j < i)) (eBin ixV (eVar 0) (eC (.int 0))) (eC (.int 0)))) (sSeq (sSet 4 (eBin modV (eBin ixV (eVar 0) (eC (.int 0))) (eVar 1))) (sSeq (sSub (eBin divV (eBin ixV (eVar 0) (eC (.int 0))) (eVar 1)) (eVar 0) (eC (.int 0))) (sRet (eCB intV (aCons (eVar 4) aNil))))) sNx) (sSeq (sSub (eBin addV (eBin ixV (eVar 0) (eC (.int 2))) (eC (.int 1))) (eVar 0) (eC (.int 2))) (sSeq (sSet 2 (eBin modV (eBin addV (eBin ixV (eVar 0) (eC (.int 1))) (eBin mulV (eC (.int 49979687)) (eBin ixV (eVar 0) (eC (.int 2))))) (eC (.int 2305843009213693951)))) (sSeq (sSet 3 (eBin addV (eBin mulV (eBin modV (eBin addV (eBin mulV (eVar 2) (eVar 2)) (eBin mulV (eC (.int 131)) (eBin ixV (eVar 0) (eC (.int 2))))) (eC (.int 2305843009213693921))) (eC (.int 32452843))) (eVar 2))) (sRet (eBin modV (eCB intV (aCons (eBin divV (eVar 3) (eC (.int 65587))) aNil)) (eVar 1)))))))
def N__law_roll : List Str := ["dice", "total", "one", "two", "found"]
def M__law_roll : MF := stF 5 b__law_roll
def b__law_pick : MS := (sRet (eBin ixV (eVar 1) (eFn 2 M__law_roll (aCons (eVar 0) (aCons (eCB lenV (aCons (eVar 1) aNil)) aNil)))))
def N__law_pick : List Str := ["dice", "things"]
def M__law_pick : MF := stF 2 b__law_pick
def b__law_fr : MS := (sSeq (sPar2 3 4 (aCons (eCB absV' (aCons (eVar 0) aNil)) (aCons (eCB absV' (aCons (eVar 1) aNil)) aNil))) (sSeq (sWh (fun en _ => natAt en 4 + 1) (eTst (eBin (gIb fun i j => decide (j < i)) (eVar 4) (eC (.int 0)))) (sPar2 3 4 (aCons (eVar 4) (aCons (eBin modV (eVar 3) (eVar 4)) aNil)))) (sSeq (sSet 2 (eIf (eTst (eBin (gIb fun i j => decide (i < j)) (eVar 1) (eC (.int 0)))) (eUn negV (eC (.int 1))) (eC (.int 1)))) (sRet (eTup (aCons (eBin divV (eBin mulV (eVar 2) (eVar 0)) (eVar 3)) (aCons (eBin divV (eBin mulV (eVar 2) (eVar 1)) (eVar 3)) aNil)))))))
def N__law_fr : List Str := ["top", "bottom", "sign", "one", "other"]
def M__law_fr : MF := puF (puR 5 b__law_fr)
def b__law_number_text : MS := (sRet (eIf (eTst (eBin (eqV false) (eBin ixV (eVar 0) (eC (.int 1))) (eC (.int 1)))) (eCB strV (aCons (eBin ixV (eVar 0) (eC (.int 0))) aNil)) (eBin addV (eBin addV (eCB strV (aCons (eBin ixV (eVar 0) (eC (.int 0))) aNil)) (eC (.str "/"))) (eCB strV (aCons (eBin ixV (eVar 0) (eC (.int 1))) aNil)))))
def N__law_number_text : List Str := ["number"]
def M__law_number_text : MF := puF (puR 1 b__law_number_text)
def b__law_row_text : MS := (sRet (eIf (eTst (eBin (eqV true) (eVar 0) (eTup aNil))) (eM1 joinV (eC (.str " ")) (eLc [1] (iV (eVar 0)) (gtName 1) eYes (eFn 1 M__law_number_text (aCons (eVar 1) aNil)))) (eC (.str "none"))))
def N__law_row_text : List Str := ["row", "one"]
def M__law_row_text : MF := puF (puR 2 b__law_row_text)
def b__law_telling_text : MS := (sRet (eM1 joinV (eC (.str ", ")) (eLc [1] (iV (eVar 0)) (gtName 1) eYes (eFn 1 M__law_row_text (aCons (eVar 1) aNil)))))
def N__law_telling_text : List Str := ["telling", "row"]
def M__law_telling_text : MF := puF (puR 2 b__law_telling_text)
def b__law_read_whole : MS := (sSeq (sSet 1 (eIf (eTst (eBin (eqV false) (eSl (eVar 0) oNone (oSome (eC (.int 1)))) (eC (.str "-")))) (eSl (eVar 0) (oSome (eC (.int 1))) oNone) (eVar 0))) (sSeq (sIf (eOr (eTst (eBin (eqV false) (eVar 1) (eC (.str "")))) (eOr (eTst (eBin (gIb fun i j => decide (j < i)) (eCB lenV (aCons (eVar 1) aNil)) (eC (.int 4000)))) (eTst (eBin (eqV true) (eLc [3] (iV (eVar 1)) (gtName 3) (eTst (eBin (inV true) (eVar 3) (eC (.str "0123456789")))) (eC (.int 1))) (eLst aNil))))) (sRet (eC .non)) sNx) (sSeq (sSet 2 (eIf (eTst (eBin (eqV false) (eSl (eVar 0) oNone (oSome (eC (.int 1)))) (eC (.str "-")))) (eBin subV (eC (.int 0)) (eCB intV (aCons (eVar 1) aNil))) (eCB intV (aCons (eVar 1) aNil)))) (sRet (eIf (eTst (eBin (eqV false) (eCB strV (aCons (eVar 2) aNil)) (eVar 0))) (eVar 2) (eC .non))))))
def N__law_read_whole : List Str := ["text", "digits", "found", "sign"]
def M__law_read_whole : MF := puF (puR 4 b__law_read_whole)
def b__law_read_number : MS := (sSeq (sSet 1 (eM1 splitV (eVar 0) (eC (.str "/")))) (sSeq (sPar2 3 4 (aCons (eFn 1 M__law_read_whole (aCons (eBin ixV (eVar 1) (eC (.int 0))) aNil)) (aCons (eIf (eTst (eBin (eqV false) (eCB lenV (aCons (eVar 1) aNil)) (eC (.int 2)))) (eFn 1 M__law_read_whole (aCons (eBin ixV (eVar 1) (eC (.int 1))) aNil)) (eC (.int 1))) aNil))) (sSeq (sIf (eOr (eTst (eBin (gIb fun i j => decide (j < i)) (eCB lenV (aCons (eVar 1) aNil)) (eC (.int 2)))) (eOr (eTst (eBin (isNV false) (eVar 3) (eC .non))) (eOr (eTst (eBin (isNV false) (eVar 4) (eC .non))) (eTst (eBin (gIb fun i j => decide (i < j)) (eVar 4) (eC (.int 1))))))) (sRet (eC .non)) sNx) (sSeq (sSet 2 (eFn 2 M__law_fr (aCons (eVar 3) (aCons (eVar 4) aNil)))) (sRet (eIf (eTst (eBin (eqV false) (eFn 1 M__law_number_text (aCons (eVar 2) aNil)) (eVar 0))) (eVar 2) (eC .non)))))))
def N__law_read_number : List Str := ["text", "parts", "found", "top", "bottom"]
def M__law_read_number : MF := puF (puR 5 b__law_read_number)
def b__law_read_row : MS := (sSeq (sIf (eTst (eBin (eqV false) (eVar 0) (eC (.str "none")))) (sRet (eTup aNil)) sNx) (sSeq (sSet 1 (eCB tupV (aCons (eLc [2] (iV (eM1 splitV (eVar 0) (eC (.str " ")))) (gtName 2) eYes (eFn 1 M__law_read_number (aCons (eVar 2) aNil))) aNil))) (sRet (eIf (eTst (eBin (inV true) (eC .non) (eVar 1))) (eVar 1) (eC .non)))))
def N__law_read_row : List Str := ["text", "row", "part"]
def M__law_read_row : MF := puF (puR 3 b__law_read_row)
def b__law_read_telling : MS := (sSeq (sSet 1 (eCB tupV (aCons (eLc [2] (iV (eM1 splitV (eVar 0) (eC (.str ", ")))) (gtName 2) eYes (eFn 1 M__law_read_row (aCons (eVar 2) aNil))) aNil))) (sRet (eIf (eTst (eBin (inV true) (eC .non) (eVar 1))) (eVar 1) (eC .non))))
def N__law_read_telling : List Str := ["text", "rows", "part"]
def M__law_read_telling : MF := puF (puR 3 b__law_read_telling)
def T_due : TabF := fun x => if x = "_law_read_number" then some (1, M__law_read_number) else if x = "_law_read_row" then some (1, M__law_read_row) else if x = "_law_read_telling" then some (1, M__law_read_telling) else none
def b_one_line : MS := (sSeq (sSet 2 (eFn 1 M_lines_of (aCons (eVar 0) aNil))) (sSeq (sSet 3 (eFnV 1 T_read (aCons (eBin ixV (eVar 2) (eC (.int 0))) aNil))) (sSeq (sIf (eOr (eTst (eBin (isNV false) (eVar 3) (eC .non))) (eTst (eBin (gIb fun i j => decide (j < i)) (eCB lenV (aCons (eVar 2) aNil)) (eC (.int 1))))) (sRaiseI pmNI "ParseError" "line" (aCons (eIf (eTst (eBin (isNV false) (eVar 3) (eC .non))) (eC (.int 0)) (eC (.int 1))) aNil)) sNx) (sRet (eVar 3)))))
def N_one_line : List Str := ["text", "read", "lines", "found"]
def M_one_line : MF := puF (puR 4 b_one_line)
def b_parse_number : MS := (sRet (eFn 2 M_one_line (aCons (eVar 0) (aCons (eC (.glo "number_in")) aNil))))
def N_parse_number : List Str := ["text"]
def M_parse_number : MF := puF (puR 1 b_parse_number)
def b_parse_row : MS := (sRet (eFn 2 M_one_line (aCons (eVar 0) (aCons (eC (.glo "row_in")) aNil))))
def N_parse_row : List Str := ["text"]
def M_parse_row : MF := puF (puR 1 b_parse_row)
def b_parse_telling : MS := (sRet (eFn 2 M_one_line (aCons (eVar 0) (aCons (eC (.glo "telling_in")) aNil))))
def N_parse_telling : List Str := ["text"]
def M_parse_telling : MF := puF (puR 1 b_parse_telling)
def T_call : TabF := fun x => if x = "parse_number" then some (1, M_parse_number) else if x = "parse_row" then some (1, M_parse_row) else if x = "parse_telling" then some (1, M_parse_telling) else none
def b__law_spot : MS := (sTry (sRet (eTup (aCons (eC (.str "read")) (aCons (eFnV 0 T_call (aCons (eVar 1) aNil)) aNil)))) [(xm_ParseError, (some 2), (sRet (eTup (aCons (eC (.str "line")) (aCons (eXf 2 "line") aNil)))))])
def N__law_spot : List Str := ["call", "text", "error"]
def M__law_spot : MF := puF (puR 3 b__law_spot)
def b__law_bent : MS := (sSeq (sPar2 4 5 (aCons (eFn 2 M__law_roll (aCons (eVar 0) (aCons (eBin addV (eCB lenV (aCons (eVar 1) aNil)) (eC (.int 1))) aNil))) (aCons (eBin addV (eCB lisV (aCons (eC (.str " -+/0123abx.,")) aNil)) (eLst (aCons (eC (.str "\n")) (aCons (eC (.str "  ")) (aCons (eC (.str ", ")) (aCons (eC (.str "none")) (aCons (eC (.str "/1")) (aCons (eC (.str "/2")) aNil)))))))) aNil))) (sSeq (sSet 2 (eFn 2 M__law_pick (aCons (eVar 0) (aCons (eVar 5) aNil)))) (sSeq (sSet 3 (eLstM (aCons (eBin addV (eBin addV (eSl (eVar 1) oNone (oSome (eVar 4))) (eVar 2)) (eSl (eVar 1) (oSome (eVar 4)) oNone)) (aCons (eBin addV (eSl (eVar 1) oNone (oSome (eVar 4))) (eSl (eVar 1) (oSome (eBin addV (eVar 4) (eC (.int 1)))) oNone)) (aCons (eBin addV (eBin addV (eSl (eVar 1) oNone (oSome (eVar 4))) (eVar 2)) (eSl (eVar 1) (oSome (eBin addV (eVar 4) (eC (.int 1)))) oNone)) aNil))))) (sSeq (sSet 3 (eCatM (eVar 3) (eLst (aCons (eBin addV (eBin addV (eSl (eVar 1) oNone (oSome (eVar 4))) (eBin mulV (eSl (eVar 1) (oSome (eVar 4)) (oSome (eBin addV (eVar 4) (eC (.int 1))))) (eC (.int 2)))) (eSl (eVar 1) (oSome (eBin addV (eVar 4) (eC (.int 1)))) oNone)) (aCons (eSl (eVar 1) oNone (oSome (eVar 4))) aNil))))) (sSeq (sDrop (eApp (eVar 3) (aCons (eBin addV (eBin addV (eBin addV (eSl (eVar 1) oNone (oSome (eVar 4))) (eSl (eVar 1) (oSome (eBin addV (eVar 4) (eC (.int 1)))) (oSome (eBin addV (eVar 4) (eC (.int 2)))))) (eSl (eVar 1) (oSome (eVar 4)) (oSome (eBin addV (eVar 4) (eC (.int 1)))))) (eSl (eVar 1) (oSome (eBin addV (eVar 4) (eC (.int 2)))) oNone)) aNil))) (sRet (eFn 2 M__law_pick (aCons (eVar 0) (aCons (eBin addV (eVar 3) (eLst (aCons (eBin addV (eVar 1) (eC (.str " "))) (aCons (eBin addV (eC (.str " ")) (eVar 1)) aNil)))) aNil)))))))))
def N__law_bent : List Str := ["dice", "text", "sign", "ways", "at", "signs"]
def M__law_bent : MF := stF 6 b__law_bent
def b__law_due : MS := (sSeq (sSet 2 (eM1 splitV (eVar 1) (eC (.str "\n")))) (sSeq (sIf (eTst (eBin (isNV false) (eFnV 0 T_due (aCons (eBin ixV (eVar 2) (eC (.int 0))) aNil)) (eC .non))) (sRet (eTup (aCons (eC (.str "line")) (aCons (eC (.int 0)) aNil)))) sNx) (sRet (eIf (eTst (eBin (eqV false) (eCB lenV (aCons (eVar 2) aNil)) (eC (.int 1)))) (eTup (aCons (eC (.str "read")) (aCons (eFnV 0 T_due (aCons (eVar 1) aNil)) aNil))) (eTup (aCons (eC (.str "line")) (aCons (eC (.int 1)) aNil)))))))
def N__law_due : List Str := ["read", "text", "lines"]
def M__law_due : MF := puF (puR 3 b__law_due)
def b__law_right : MS := (sSeq (sSet 1 (eLst (aCons (eC (.int 0)) (aCons (eC (.int 1)) (aCons (eUn negV (eC (.int 1))) (aCons (eC (.int 2)) (aCons (eUn negV (eC (.int 3))) (aCons (eC (.int 12)) (aCons (eBin addV (eBin powV (eC (.int 10)) (eC (.int 40))) (eC (.int 1))) (aCons (eBin subV (eC (.int 0)) (eBin powV (eC (.int 10)) (eC (.int 60)))) aNil)))))))))) (sSeq (sSet 2 (eLstM aNil)) (sSeq (sFor (iR rng1V (aCons (eBin addV (eC (.int 1)) (eFn 2 M__law_roll (aCons (eVar 0) (aCons (eC (.int 4)) aNil)))) aNil)) (gtName 3) (sSeq (sSet 6 (eLstM aNil)) (sSeq (sFor (iR rng1V (aCons (eFn 2 M__law_roll (aCons (eVar 0) (aCons (eC (.int 4)) aNil))) aNil)) (gtName 7) (sDrop (eApp (eVar 6) (aCons (eFn 2 M__law_fr (aCons (eFn 2 M__law_pick (aCons (eVar 0) (aCons (eVar 1) aNil))) (aCons (eFn 2 M__law_pick (aCons (eVar 0) (aCons (eLst (aCons (eC (.int 1)) (aCons (eC (.int 1)) (aCons (eC (.int 2)) (aCons (eC (.int 3)) (aCons (eC (.int 7)) (aCons (eBin addV (eBin powV (eC (.int 10)) (eC (.int 30))) (eC (.int 3))) aNil))))))) aNil))) aNil))) aNil)))) (sDrop (eApp (eVar 2) (aCons (eCB tupV (aCons (eVar 6) aNil)) aNil)))))) (sSeq (sPar3 8 6 9 (aCons (eFn 2 M__law_fr (aCons (eFn 2 M__law_pick (aCons (eVar 0) (aCons (eVar 1) aNil))) (aCons (eFn 2 M__law_pick (aCons (eVar 0) (aCons (eLst (aCons (eC (.int 1)) (aCons (eC (.int 2)) (aCons (eC (.int 6)) (aCons (eC (.int 35)) aNil))))) aNil))) aNil))) (aCons (eBin ixV (eVar 2) (eC (.int 0))) (aCons (eCB tupV (aCons (eVar 2) aNil)) aNil)))) (sSeq (sSet 4 (eLst (aCons (eFn 1 M_format_number (aCons (eVar 8) aNil)) (aCons (eFn 1 M_format_row (aCons (eVar 6) aNil)) (aCons (eFn 1 M_format_telling (aCons (eVar 9) aNil)) aNil))))) (sSeq (sIf (eTst (eBin (eqV true) (eVar 4) (eLst (aCons (eFn 1 M__law_number_text (aCons (eVar 8) aNil)) (aCons (eFn 1 M__law_row_text (aCons (eVar 6) aNil)) (aCons (eFn 1 M__law_telling_text (aCons (eVar 9) aNil)) aNil)))))) (sRet (eC (.bl false))) sNx) (sSeq (sIf (eTst (eBin (eqV true) (eCB repV (aCons (eLst (aCons (eFn 1 M_parse_number (aCons (eBin ixV (eVar 4) (eC (.int 0))) aNil)) (aCons (eFn 1 M_parse_row (aCons (eBin ixV (eVar 4) (eC (.int 1))) aNil)) (aCons (eFn 1 M_parse_telling (aCons (eBin ixV (eVar 4) (eC (.int 2))) aNil)) aNil)))) aNil)) (eCB repV (aCons (eLst (aCons (eVar 8) (aCons (eVar 6) (aCons (eVar 9) aNil)))) aNil)))) (sRet (eC (.bl false))) sNx) (sSeq (sSet 5 (eLst (aCons (eTup (aCons (eC (.glo "parse_number")) (aCons (eC (.glo "_law_read_number")) (aCons (eBin ixV (eVar 4) (eC (.int 0))) aNil)))) (aCons (eTup (aCons (eC (.glo "parse_row")) (aCons (eC (.glo "_law_read_row")) (aCons (eBin ixV (eVar 4) (eC (.int 1))) aNil)))) aNil)))) (sSeq (sFor (iV (eBin addV (eVar 5) (eLst (aCons (eTup (aCons (eC (.glo "parse_telling")) (aCons (eC (.glo "_law_read_telling")) (aCons (eBin ixV (eVar 4) (eC (.int 2))) aNil)))) aNil)))) (gtTup 3 (gtCons (gtName 10) (gtCons (gtName 11) (gtCons (gtName 12) gtNil)))) (sFor (iR rng1V (aCons (eC (.int 12)) aNil)) (gtName 3) (sSeq (sSet 13 (eFn 2 M__law_bent (aCons (eVar 0) (aCons (eVar 12) aNil)))) (sIf (eTst (eBin (eqV true) (eCB repV (aCons (eFn 2 M__law_spot (aCons (eVar 10) (aCons (eVar 13) aNil))) aNil)) (eCB repV (aCons (eFn 2 M__law_due (aCons (eVar 11) (aCons (eVar 13) aNil))) aNil)))) (sRet (eC (.bl false))) sNx)))) (sRet (eC (.bl true))))))))))))
def N__law_right : List Str := ["dice", "some", "rows", "turn", "told", "calls", "row", "at", "number", "telling", "call", "read", "text", "bent"]
def M__law_right : MF := stF 14 b__law_right
def b_law : MS := (sSeq (sSet 1 (eLstM (aCons (eC (.str "")) (aCons (eC (.str "0")) (aCons (eC (.str "-0")) (aCons (eC (.str "00")) (aCons (eC (.str "1/1")) (aCons (eC (.str "2/4")) (aCons (eC (.str "1/2")) (aCons (eC (.str "-1/2")) (aCons (eC (.str "1/-2")) (aCons (eC (.str "1/0")) (aCons (eC (.str "0/1")) (aCons (eC (.str "+1")) (aCons (eC (.str "1 ")) (aCons (eC (.str " 1")) (aCons (eC (.str "none")) (aCons (eC (.str "1  2")) aNil)))))))))))))))))) (sSeq (sSet 1 (eCatM (eVar 1) (eLst (aCons (eC (.str "1 2")) (aCons (eC (.str "1,2")) (aCons (eC (.str "1, 2")) (aCons (eC (.str "1/2 -3, none")) (aCons (eC (.str "none, none")) (aCons (eC (.str "none none")) (aCons (eC (.str "1, ")) (aCons (eC (.str ", 1")) (aCons (eC (.str "1\n2")) (aCons (eC (.str "1\n")) aNil))))))))))))) (sSeq (sDrop (eApp (eVar 1) (aCons (eC (.str "--1")) aNil))) (sSeq (sSet 1 (eBin addV (eVar 1) (eLst (aCons (eC (.str "1/2/3")) (aCons (eC (.str "007")) (aCons (eC (.str "-")) (aCons (eC (.str "/")) (aCons (eC (.str "/2")) (aCons (eC (.str "3/")) (aCons (eC (.str "none,1")) (aCons (eC (.str "0, 0, 0")) (aCons (eC (.str "1 none")) aNil)))))))))))) (sSeq (sSet 2 (eLst (aCons (eTup (aCons (eC (.glo "parse_number")) (aCons (eC (.glo "_law_read_number")) aNil))) (aCons (eTup (aCons (eC (.glo "parse_row")) (aCons (eC (.glo "_law_read_row")) aNil))) (aCons (eTup (aCons (eC (.glo "parse_telling")) (aCons (eC (.glo "_law_read_telling")) aNil))) aNil))))) (sSeq (sFor (iV (eVar 2)) (gtTup 2 (gtCons (gtName 4) (gtCons (gtName 5) gtNil))) (sFor (iV (eVar 1)) (gtName 6) (sIf (eTst (eBin (eqV true) (eCB repV (aCons (eFn 2 M__law_spot (aCons (eVar 4) (aCons (eVar 6) aNil))) aNil)) (eCB repV (aCons (eFn 2 M__law_due (aCons (eVar 5) (aCons (eVar 6) aNil))) aNil)))) (sRet (eC (.bl false))) sNx))) (sSeq (sFor (iR rng1V (aCons (eCB maxV (aCons (eC (.int 1)) (aCons (eCB minV (aCons (eC (.int 6)) (aCons (eCB lenV (aCons (eVar 0) aNil)) aNil))) aNil))) aNil)) (gtName 3) (sSeq (sSet 7 (eFn 2 M__law_dice (aCons (eVar 0) (aCons (eVar 3) aNil)))) (sFor (iR rng1V (aCons (eC (.int 2)) aNil)) (gtName 8) (sIf (eNot (eTst (eFn 1 M__law_right (aCons (eVar 7) aNil)))) (sRet (eC (.bl false))) sNx)))) (sRet (eC (.bl true))))))))))
def N_law : List Str := ["script", "texts", "calls", "spot", "call", "read", "text", "dice", "turn"]
def M_law : MF := puF (puR 9 b_law)
def d_is_integer : He.DefD := ⟨("is_integer", none), "is_integer", "is_integer", defArgs (top 8), defBody (top 8), defScope (top 8), [], []⟩
def d_common_divisor : He.DefD := ⟨("common_divisor", none), "common_divisor", "common_divisor", defArgs (top 9), defBody (top 9), defScope (top 9), [], []⟩
def d_is_number : He.DefD := ⟨("is_number", none), "is_number", "is_number", defArgs (top 10), defBody (top 10), defScope (top 10), [], []⟩
def d_require_number : He.DefD := ⟨("require_number", none), "require_number", "require_number", defArgs (top 11), defBody (top 11), defScope (top 11), [], []⟩
def d_is_plain_row : He.DefD := ⟨("is_plain_row", none), "is_plain_row", "is_plain_row", defArgs (top 13), defBody (top 13), defScope (top 13), [], []⟩
def d_require_text : He.DefD := ⟨("require_text", none), "require_text", "require_text", defArgs (top 22), defBody (top 22), defScope (top 22), [], []⟩
def d_require_sizes : He.DefD := ⟨("require_sizes", none), "require_sizes", "require_sizes", defArgs (top 23), defBody (top 23), defScope (top 23), [], []⟩
def d_number_text : He.DefD := ⟨("number_text", none), "number_text", "number_text", defArgs (top 24), defBody (top 24), defScope (top 24), [], []⟩
def d_row_text : He.DefD := ⟨("row_text", none), "row_text", "row_text", defArgs (top 25), defBody (top 25), defScope (top 25), [], []⟩
def d_format_number : He.DefD := ⟨("format_number", none), "format_number", "format_number", defArgs (top 26), defBody (top 26), defScope (top 26), [], []⟩
def d_is_any_row : He.DefD := ⟨("is_any_row", none), "is_any_row", "is_any_row", defArgs (top 27), defBody (top 27), defScope (top 27), [], []⟩
def d_format_row : He.DefD := ⟨("format_row", none), "format_row", "format_row", defArgs (top 28), defBody (top 28), defScope (top 28), [], []⟩
def d_whole_in : He.DefD := ⟨("whole_in", none), "whole_in", "whole_in", defArgs (top 29), defBody (top 29), defScope (top 29), [], []⟩
def d_number_in : He.DefD := ⟨("number_in", none), "number_in", "number_in", defArgs (top 30), defBody (top 30), defScope (top 30), [], []⟩
def d_row_in : He.DefD := ⟨("row_in", none), "row_in", "row_in", defArgs (top 31), defBody (top 31), defScope (top 31), [], []⟩
def d_lines_of : He.DefD := ⟨("lines_of", none), "lines_of", "lines_of", defArgs (top 32), defBody (top 32), defScope (top 32), [], []⟩
def d_telling_text : He.DefD := ⟨("telling_text", none), "telling_text", "telling_text", defArgs (top 36), defBody (top 36), defScope (top 36), [], []⟩
def d_format_telling : He.DefD := ⟨("format_telling", none), "format_telling", "format_telling", defArgs (top 37), defBody (top 37), defScope (top 37), [], []⟩
def d_telling_in : He.DefD := ⟨("telling_in", none), "telling_in", "telling_in", defArgs (top 38), defBody (top 38), defScope (top 38), [], []⟩
def d__law_dice : He.DefD := ⟨("_law_dice", none), "_law_dice", "_law_dice", defArgs (top 41), defBody (top 41), defScope (top 41), [], []⟩
def d__law_roll : He.DefD := ⟨("_law_roll", none), "_law_roll", "_law_roll", defArgs (top 42), defBody (top 42), defScope (top 42), [], []⟩
def d__law_pick : He.DefD := ⟨("_law_pick", none), "_law_pick", "_law_pick", defArgs (top 43), defBody (top 43), defScope (top 43), [], []⟩
def d__law_fr : He.DefD := ⟨("_law_fr", none), "_law_fr", "_law_fr", defArgs (top 44), defBody (top 44), defScope (top 44), [], []⟩
def d__law_number_text : He.DefD := ⟨("_law_number_text", none), "_law_number_text", "_law_number_text", defArgs (top 45), defBody (top 45), defScope (top 45), [], []⟩
def d__law_row_text : He.DefD := ⟨("_law_row_text", none), "_law_row_text", "_law_row_text", defArgs (top 46), defBody (top 46), defScope (top 46), [], []⟩
def d__law_telling_text : He.DefD := ⟨("_law_telling_text", none), "_law_telling_text", "_law_telling_text", defArgs (top 47), defBody (top 47), defScope (top 47), [], []⟩
def d__law_read_whole : He.DefD := ⟨("_law_read_whole", none), "_law_read_whole", "_law_read_whole", defArgs (top 48), defBody (top 48), defScope (top 48), [], []⟩
def d__law_read_number : He.DefD := ⟨("_law_read_number", none), "_law_read_number", "_law_read_number", defArgs (top 49), defBody (top 49), defScope (top 49), [], []⟩
def d__law_read_row : He.DefD := ⟨("_law_read_row", none), "_law_read_row", "_law_read_row", defArgs (top 50), defBody (top 50), defScope (top 50), [], []⟩
def d__law_read_telling : He.DefD := ⟨("_law_read_telling", none), "_law_read_telling", "_law_read_telling", defArgs (top 51), defBody (top 51), defScope (top 51), [], []⟩
def d_one_line : He.DefD := ⟨("one_line", none), "one_line", "one_line", defArgs (top 33), defBody (top 33), defScope (top 33), [], []⟩
def d_parse_number : He.DefD := ⟨("parse_number", none), "parse_number", "parse_number", defArgs (top 34), defBody (top 34), defScope (top 34), [], []⟩
def d_parse_row : He.DefD := ⟨("parse_row", none), "parse_row", "parse_row", defArgs (top 35), defBody (top 35), defScope (top 35), [], []⟩
def d_parse_telling : He.DefD := ⟨("parse_telling", none), "parse_telling", "parse_telling", defArgs (top 39), defBody (top 39), defScope (top 39), [], []⟩
def d__law_spot : He.DefD := ⟨("_law_spot", none), "_law_spot", "_law_spot", defArgs (top 53), defBody (top 53), defScope (top 53), [], []⟩
def d__law_bent : He.DefD := ⟨("_law_bent", none), "_law_bent", "_law_bent", defArgs (top 52), defBody (top 52), defScope (top 52), [], []⟩
def d__law_due : He.DefD := ⟨("_law_due", none), "_law_due", "_law_due", defArgs (top 54), defBody (top 54), defScope (top 54), [], []⟩
def d__law_right : He.DefD := ⟨("_law_right", none), "_law_right", "_law_right", defArgs (top 55), defBody (top 55), defScope (top 55), [], []⟩
def d_law : He.DefD := ⟨("law", none), "law", "law", defArgs (top 56), defBody (top 56), defScope (top 56), [], []⟩
def t_ParseError : Stmt := (clsBody (top 5)).getD 0 (.Pass ⟨0, 0, 0, 0⟩)
def ini_ParseError : IniD := ⟨"ParseError", "ParseError.__init__", defArgs t_ParseError, defBody t_ParseError, defScope t_ParseError, "ValueError", "ValueError.__new__", "ValueError.__init__", [.type "ValueError", .type "Exception", .type "BaseException", .type "object"], "line"⟩
def ini : List IniD := [ini_ParseError]
def exs : List (PySem.W.Frag → Bool) := [fun K => xfB K (He.ga K "ParseError") && decide (PySem.W.findIn K (.ref (He.ga K "ParseError")) "line" = some none)]
def fn : List He.DefD := [d_is_integer, d_common_divisor, d_is_number, d_require_number, d_is_plain_row, d_require_text, d_require_sizes, d_number_text, d_row_text, d_format_number, d_is_any_row, d_format_row, d_whole_in, d_number_in, d_row_in, d_lines_of, d_telling_text, d_format_telling, d_telling_in, d__law_dice, d__law_roll, d__law_pick, d__law_fr, d__law_number_text, d__law_row_text, d__law_telling_text, d__law_read_whole, d__law_read_number, d__law_read_row, d__law_read_telling, d_one_line, d_parse_number, d_parse_row, d_parse_telling, d__law_spot, d__law_bent, d__law_due, d__law_right, d_law]
def fa : List He.Fa := [.free "int", .free "isinstance", .free "bool", .free "abs", .free "tuple", .free "len", .free "all", .int "MAX_TEXT" (9000), .int "MOST_WRITTEN" c_MOST_WRITTEN, .free "any", .free "str", .str "NONE" "none", .str "DIGITS" "0123456789", .int "MAX_DIGITS" (4000), .str "LINE_END" "\n", .str "COMMA" ", ", .free "max", .glo "number_in", .glo "row_in", .glo "telling_in", .exm "ParseError" "ParseError" true, .glo "ParseError", .free "list", .free "range", .free "repr", .glo "_law_read_row", .glo "parse_row", .glo "_law_read_number", .glo "parse_number", .glo "_law_read_telling", .glo "parse_telling", .free "min", .glo "is_integer", .glo "common_divisor", .glo "is_number", .glo "require_number", .glo "is_plain_row", .glo "require_text", .glo "require_sizes", .glo "number_text", .glo "row_text", .glo "format_number", .glo "is_any_row", .glo "format_row", .glo "whole_in", .glo "lines_of", .glo "telling_text", .glo "format_telling", .glo "_law_dice", .glo "_law_roll", .glo "_law_pick", .glo "_law_fr", .glo "_law_number_text", .glo "_law_row_text", .glo "_law_telling_text", .glo "_law_read_whole", .glo "one_line", .glo "_law_spot", .glo "_law_bent", .glo "_law_due", .glo "_law_right", .glo "law"]
abbrev CC (K : PySem.W.Frag) : Prop := SaysX PySem.Challenge.pw_amongliars_k81_whole_texts_of_numbers_ro.main.file fa fn ini exs K
section
variable {P : Program} {w : World} {K : PySem.W.Frag} {mg : Str → Option Value} {base : Heap}
theorem f_int (g : Gl2 K mg) (cc : CC K) : mg "int" = none := g.free _ (cc.fact 0 (f := .free "int") rfl)
theorem f_isinstance (g : Gl2 K mg) (cc : CC K) : mg "isinstance" = none := g.free _ (cc.fact 1 (f := .free "isinstance") rfl)
theorem f_bool (g : Gl2 K mg) (cc : CC K) : mg "bool" = none := g.free _ (cc.fact 2 (f := .free "bool") rfl)
theorem f_abs (g : Gl2 K mg) (cc : CC K) : mg "abs" = none := g.free _ (cc.fact 3 (f := .free "abs") rfl)
theorem f_tuple (g : Gl2 K mg) (cc : CC K) : mg "tuple" = none := g.free _ (cc.fact 4 (f := .free "tuple") rfl)
theorem f_len (g : Gl2 K mg) (cc : CC K) : mg "len" = none := g.free _ (cc.fact 5 (f := .free "len") rfl)
theorem f_all (g : Gl2 K mg) (cc : CC K) : mg "all" = none := g.free _ (cc.fact 6 (f := .free "all") rfl)
theorem i_MAX_TEXT (g : Gl2 K mg) (cc : CC K) : ∃ t, mg "MAX_TEXT" = some (.int (9000) t) := g.int _ _ (cc.fact 7 (f := .int "MAX_TEXT" (9000)) rfl)
theorem i_MOST_WRITTEN (g : Gl2 K mg) (cc : CC K) : ∃ t, mg "MOST_WRITTEN" = some (.int c_MOST_WRITTEN t) := g.int _ _ (cc.fact 8 (f := .int "MOST_WRITTEN" c_MOST_WRITTEN) rfl)
theorem f_any (g : Gl2 K mg) (cc : CC K) : mg "any" = none := g.free _ (cc.fact 9 (f := .free "any") rfl)
theorem f_str (g : Gl2 K mg) (cc : CC K) : mg "str" = none := g.free _ (cc.fact 10 (f := .free "str") rfl)
theorem s_NONE (g : Gl2 K mg) (cc : CC K) : ∃ t, mg "NONE" = some (.str "none" t) := g.str _ _ (cc.fact 11 (f := .str "NONE" "none") rfl)
theorem s_DIGITS (g : Gl2 K mg) (cc : CC K) : ∃ t, mg "DIGITS" = some (.str "0123456789" t) := g.str _ _ (cc.fact 12 (f := .str "DIGITS" "0123456789") rfl)
theorem i_MAX_DIGITS (g : Gl2 K mg) (cc : CC K) : ∃ t, mg "MAX_DIGITS" = some (.int (4000) t) := g.int _ _ (cc.fact 13 (f := .int "MAX_DIGITS" (4000)) rfl)
theorem s_LINE_END (g : Gl2 K mg) (cc : CC K) : ∃ t, mg "LINE_END" = some (.str "\n" t) := g.str _ _ (cc.fact 14 (f := .str "LINE_END" "\n") rfl)
theorem s_COMMA (g : Gl2 K mg) (cc : CC K) : ∃ t, mg "COMMA" = some (.str ", " t) := g.str _ _ (cc.fact 15 (f := .str "COMMA" ", ") rfl)
theorem f_max (g : Gl2 K mg) (cc : CC K) : mg "max" = none := g.free _ (cc.fact 16 (f := .free "max") rfl)
theorem g_number_in (g : Gl2 K mg) (cc : CC K) : mg "number_in" = some (.ref (He.ga K "number_in")) := g.glo _ (cc.fact 17 (f := .glo "number_in") rfl)
theorem g_row_in (g : Gl2 K mg) (cc : CC K) : mg "row_in" = some (.ref (He.ga K "row_in")) := g.glo _ (cc.fact 18 (f := .glo "row_in") rfl)
theorem g_telling_in (g : Gl2 K mg) (cc : CC K) : mg "telling_in" = some (.ref (He.ga K "telling_in")) := g.glo _ (cc.fact 19 (f := .glo "telling_in") rfl)
theorem g_ParseError (g : Gl2 K mg) (cc : CC K) : mg "ParseError" = some (.ref (He.ga K "ParseError")) := g.glo _ (cc.fact 21 (f := .glo "ParseError") rfl)
theorem f_list (g : Gl2 K mg) (cc : CC K) : mg "list" = none := g.free _ (cc.fact 22 (f := .free "list") rfl)
theorem f_range (g : Gl2 K mg) (cc : CC K) : mg "range" = none := g.free _ (cc.fact 23 (f := .free "range") rfl)
theorem f_repr (g : Gl2 K mg) (cc : CC K) : mg "repr" = none := g.free _ (cc.fact 24 (f := .free "repr") rfl)
theorem g__law_read_row (g : Gl2 K mg) (cc : CC K) : mg "_law_read_row" = some (.ref (He.ga K "_law_read_row")) := g.glo _ (cc.fact 25 (f := .glo "_law_read_row") rfl)
theorem g_parse_row (g : Gl2 K mg) (cc : CC K) : mg "parse_row" = some (.ref (He.ga K "parse_row")) := g.glo _ (cc.fact 26 (f := .glo "parse_row") rfl)
theorem g__law_read_number (g : Gl2 K mg) (cc : CC K) : mg "_law_read_number" = some (.ref (He.ga K "_law_read_number")) := g.glo _ (cc.fact 27 (f := .glo "_law_read_number") rfl)
theorem g_parse_number (g : Gl2 K mg) (cc : CC K) : mg "parse_number" = some (.ref (He.ga K "parse_number")) := g.glo _ (cc.fact 28 (f := .glo "parse_number") rfl)
theorem g__law_read_telling (g : Gl2 K mg) (cc : CC K) : mg "_law_read_telling" = some (.ref (He.ga K "_law_read_telling")) := g.glo _ (cc.fact 29 (f := .glo "_law_read_telling") rfl)
theorem g_parse_telling (g : Gl2 K mg) (cc : CC K) : mg "parse_telling" = some (.ref (He.ga K "parse_telling")) := g.glo _ (cc.fact 30 (f := .glo "parse_telling") rfl)
theorem f_min (g : Gl2 K mg) (cc : CC K) : mg "min" = none := g.free _ (cc.fact 31 (f := .free "min") rfl)
theorem g_is_integer (g : Gl2 K mg) (cc : CC K) : mg "is_integer" = some (.ref (He.ga K "is_integer")) := g.glo _ (cc.fact 32 (f := .glo "is_integer") rfl)
theorem g_common_divisor (g : Gl2 K mg) (cc : CC K) : mg "common_divisor" = some (.ref (He.ga K "common_divisor")) := g.glo _ (cc.fact 33 (f := .glo "common_divisor") rfl)
theorem g_is_number (g : Gl2 K mg) (cc : CC K) : mg "is_number" = some (.ref (He.ga K "is_number")) := g.glo _ (cc.fact 34 (f := .glo "is_number") rfl)
theorem g_require_number (g : Gl2 K mg) (cc : CC K) : mg "require_number" = some (.ref (He.ga K "require_number")) := g.glo _ (cc.fact 35 (f := .glo "require_number") rfl)
theorem g_is_plain_row (g : Gl2 K mg) (cc : CC K) : mg "is_plain_row" = some (.ref (He.ga K "is_plain_row")) := g.glo _ (cc.fact 36 (f := .glo "is_plain_row") rfl)
theorem g_require_text (g : Gl2 K mg) (cc : CC K) : mg "require_text" = some (.ref (He.ga K "require_text")) := g.glo _ (cc.fact 37 (f := .glo "require_text") rfl)
theorem g_require_sizes (g : Gl2 K mg) (cc : CC K) : mg "require_sizes" = some (.ref (He.ga K "require_sizes")) := g.glo _ (cc.fact 38 (f := .glo "require_sizes") rfl)
theorem g_number_text (g : Gl2 K mg) (cc : CC K) : mg "number_text" = some (.ref (He.ga K "number_text")) := g.glo _ (cc.fact 39 (f := .glo "number_text") rfl)
theorem g_row_text (g : Gl2 K mg) (cc : CC K) : mg "row_text" = some (.ref (He.ga K "row_text")) := g.glo _ (cc.fact 40 (f := .glo "row_text") rfl)
theorem g_format_number (g : Gl2 K mg) (cc : CC K) : mg "format_number" = some (.ref (He.ga K "format_number")) := g.glo _ (cc.fact 41 (f := .glo "format_number") rfl)
theorem g_is_any_row (g : Gl2 K mg) (cc : CC K) : mg "is_any_row" = some (.ref (He.ga K "is_any_row")) := g.glo _ (cc.fact 42 (f := .glo "is_any_row") rfl)
theorem g_format_row (g : Gl2 K mg) (cc : CC K) : mg "format_row" = some (.ref (He.ga K "format_row")) := g.glo _ (cc.fact 43 (f := .glo "format_row") rfl)
theorem g_whole_in (g : Gl2 K mg) (cc : CC K) : mg "whole_in" = some (.ref (He.ga K "whole_in")) := g.glo _ (cc.fact 44 (f := .glo "whole_in") rfl)
theorem g_lines_of (g : Gl2 K mg) (cc : CC K) : mg "lines_of" = some (.ref (He.ga K "lines_of")) := g.glo _ (cc.fact 45 (f := .glo "lines_of") rfl)
theorem g_telling_text (g : Gl2 K mg) (cc : CC K) : mg "telling_text" = some (.ref (He.ga K "telling_text")) := g.glo _ (cc.fact 46 (f := .glo "telling_text") rfl)
theorem g_format_telling (g : Gl2 K mg) (cc : CC K) : mg "format_telling" = some (.ref (He.ga K "format_telling")) := g.glo _ (cc.fact 47 (f := .glo "format_telling") rfl)
theorem g__law_dice (g : Gl2 K mg) (cc : CC K) : mg "_law_dice" = some (.ref (He.ga K "_law_dice")) := g.glo _ (cc.fact 48 (f := .glo "_law_dice") rfl)
theorem g__law_roll (g : Gl2 K mg) (cc : CC K) : mg "_law_roll" = some (.ref (He.ga K "_law_roll")) := g.glo _ (cc.fact 49 (f := .glo "_law_roll") rfl)
theorem g__law_pick (g : Gl2 K mg) (cc : CC K) : mg "_law_pick" = some (.ref (He.ga K "_law_pick")) := g.glo _ (cc.fact 50 (f := .glo "_law_pick") rfl)
theorem g__law_fr (g : Gl2 K mg) (cc : CC K) : mg "_law_fr" = some (.ref (He.ga K "_law_fr")) := g.glo _ (cc.fact 51 (f := .glo "_law_fr") rfl)
theorem g__law_number_text (g : Gl2 K mg) (cc : CC K) : mg "_law_number_text" = some (.ref (He.ga K "_law_number_text")) := g.glo _ (cc.fact 52 (f := .glo "_law_number_text") rfl)
theorem g__law_row_text (g : Gl2 K mg) (cc : CC K) : mg "_law_row_text" = some (.ref (He.ga K "_law_row_text")) := g.glo _ (cc.fact 53 (f := .glo "_law_row_text") rfl)
theorem g__law_telling_text (g : Gl2 K mg) (cc : CC K) : mg "_law_telling_text" = some (.ref (He.ga K "_law_telling_text")) := g.glo _ (cc.fact 54 (f := .glo "_law_telling_text") rfl)
theorem g__law_read_whole (g : Gl2 K mg) (cc : CC K) : mg "_law_read_whole" = some (.ref (He.ga K "_law_read_whole")) := g.glo _ (cc.fact 55 (f := .glo "_law_read_whole") rfl)
theorem g_one_line (g : Gl2 K mg) (cc : CC K) : mg "one_line" = some (.ref (He.ga K "one_line")) := g.glo _ (cc.fact 56 (f := .glo "one_line") rfl)
theorem g__law_spot (g : Gl2 K mg) (cc : CC K) : mg "_law_spot" = some (.ref (He.ga K "_law_spot")) := g.glo _ (cc.fact 57 (f := .glo "_law_spot") rfl)
theorem g__law_bent (g : Gl2 K mg) (cc : CC K) : mg "_law_bent" = some (.ref (He.ga K "_law_bent")) := g.glo _ (cc.fact 58 (f := .glo "_law_bent") rfl)
theorem g__law_due (g : Gl2 K mg) (cc : CC K) : mg "_law_due" = some (.ref (He.ga K "_law_due")) := g.glo _ (cc.fact 59 (f := .glo "_law_due") rfl)
theorem g__law_right (g : Gl2 K mg) (cc : CC K) : mg "_law_right" = some (.ref (He.ga K "_law_right")) := g.glo _ (cc.fact 60 (f := .glo "_law_right") rfl)
theorem g_law (g : Gl2 K mg) (cc : CC K) : mg "law" = some (.ref (He.ga K "law")) := g.glo _ (cc.fact 61 (f := .glo "law") rfl)
def msg_ParseError : Expr := (initMsg (defBody t_ParseError))
theorem pm_ParseError : PmOk pmNI msg_ParseError "line" := msg_fmt (by decide) (by decide)
theorem is_ParseError : InitSt ini_ParseError.body ini_ParseError.scope ini_ParseError.params "self" "line" ini_ParseError.f msg_ParseError := ⟨⟨_, _, _, _, _, _, _, _, _, _, rfl, rfl, fun env => ⟨_, rfl⟩⟩, ⟨_, rfl, rfl⟩, rfl, rfl, rfl, by decide +kernel, by kernel_rfl, by kernel_rfl, by kernel_rfl, by kernel_rfl, by decide, nostar_js, by decide, by decide⟩
theorem x_ParseError (g : Gl2 K mg) (cc : CC K) (hP : P = PySem.Challenge.pw_amongliars_k81_whole_texts_of_numbers_ro) : mg "ParseError" = some (.ref (He.ga K "ParseError")) ∧ ExI P K (He.ga K "ParseError") "line" "self" "line" msg_ParseError := by
  subst hP
  obtain ⟨e, h⟩ := cc.iniA 0 (d := ini_ParseError) rfl
  exact ⟨g_ParseError g cc, ini_ok (d := ini_ParseError) e h F.excBase_ValueError PySem.W.kxs_ValueError F.store_ValueError is_ParseError (by kernel_rfl) (fun dV kV doc pm cdv ct an c2 s a b hd => by subst hd; exact .of_eq rfl)⟩
theorem xm_ParseError_ok (g : Gl2 K mg) (cc : CC K) : ∀ k C b, xm_ParseError k = some b → mg k = some (.ref C) → PySem.W.exmOne K (.ref C) (.ref (He.ga K "ParseError")) = some b := by
  intro k C b h hk
  unfold xm_ParseError at h
  split at h
  · rename_i e
    cases h
    subst e
    rw [g_ParseError g cc] at hk
    cases hk
    exact He.exm_ok (cc.fact 20 (f := .exm "ParseError" "ParseError" true) rfl)
  cases h
theorem xf_ParseError (g : Gl2 K mg) (cc : CC K) {k : Str} {C : Addr} (hk : mg k = some (.ref C)) (hm : xm_ParseError k = some true) : XfC K C ∧ PySem.W.findIn K (.ref C) "line" = some none := by
  unfold xm_ParseError at hm
  split at hm
  · rename_i e
    subst e
    rw [g_ParseError g cc] at hk
    cases hk
    have z := cc.exA 0 rfl
    rw [Bool.and_eq_true] at z
    exact ⟨xfB_ok z.1, of_decide_eq_true z.2⟩
  cases hm
end
section
variable {P : Program} {w : World} {K : PySem.W.Frag} {mg : Str → Option Value} {base : Heap}
theorem ok_is_integer (g : Gl2 K mg) (cc : CC K)  : FnT P w K mg base 1 "is_integer" 1 M_is_integer := by
  obtain ⟨fd, F⟩ := cc.def_ 0 (d := d_is_integer) rfl
  refine fnT_of (st := top 8) (N := N_is_integer) (ps := ["value"]) (fb := b_is_integer) F ⟨rfl, rfl, rfl, by decide +kernel, rfl, by decide +kernel, by decide +kernel⟩ .pu (g_is_integer g cc) rfl (F.bindsN fun _ _ _ _ _ _ us hl => match us, hl with | [_], _ => rfl) ?_
  intro X bt W e1 e2 e3 e4 e5 c nx
  subst e1 e2 e3 e4 e5
  exact (ss_one (ss_ret (se_and (se_cb c.h clr_isi (f_isinstance g cc) bb_isinstance (sa_cons (se_var c.h 0) (sa_cons (se_bty c.h (f_int g cc) bb_int) sa_nil))) (se_one (se_not (se_cb c.h clr_isi (f_isinstance g cc) bb_isinstance (sa_cons (se_var c.h 0) (sa_cons (se_bty c.h (f_bool g cc) bb_bool) sa_nil))))))))
theorem ok_common_divisor (g : Gl2 K mg) (cc : CC K)  : FnT P w K mg base 1 "common_divisor" 2 M_common_divisor := by
  obtain ⟨fd, F⟩ := cc.def_ 1 (d := d_common_divisor) rfl
  refine fnT_of (st := top 9) (N := N_common_divisor) (ps := ["one", "other"]) (fb := b_common_divisor) F ⟨rfl, rfl, rfl, by decide +kernel, rfl, by decide +kernel, by decide +kernel⟩ .pu (g_common_divisor g cc) rfl (F.bindsN fun _ _ _ _ _ _ us hl => match us, hl with | [_, _], _ => rfl) ?_
  intro X bt W e1 e2 e3 e4 e5 c nx
  subst e1 e2 e3 e4 e5
  exact (ss_cons (ss_pr2 c.h c.calm c.nd 0 1 (sa_cons (se_cb c.h clr_abs (f_abs g cc) bb_abs (sa_cons (se_var c.h 0) sa_nil)) (sa_cons (se_cb c.h clr_abs (f_abs g cc) bb_abs (sa_cons (se_var c.h 1) sa_nil)) sa_nil)) (by kernel_rfl)) (ss_cons (ss_while (fun en _ => natAt en 1 + 1) c.pas (st_cmp opr_gt (se_var c.h 1) se_int) (ss_one (ss_pr2 c.h c.calm c.nd 0 1 (sa_cons (se_var c.h 1) (sa_cons (se_bin opr_mod (se_var c.h 0) (se_var c.h 1)) sa_nil)) (by kernel_rfl)))) (ss_one (ss_ret (se_var c.h 0)))))
theorem ok_is_number (g : Gl2 K mg) (cc : CC K) (h_is_integer : FnT P w K mg base 1 "is_integer" 1 M_is_integer) (h_common_divisor : FnT P w K mg base 1 "common_divisor" 2 M_common_divisor) : FnT P w K mg base 2 "is_number" 1 M_is_number := by
  obtain ⟨fd, F⟩ := cc.def_ 2 (d := d_is_number) rfl
  refine fnT_of (st := top 10) (N := N_is_number) (ps := ["value"]) (fb := b_is_number) F ⟨rfl, rfl, rfl, by decide +kernel, rfl, by decide +kernel, by decide +kernel⟩ .pu (g_is_number g cc) rfl (F.bindsN fun _ _ _ _ _ _ us hl => match us, hl with | [_], _ => rfl) ?_
  intro X bt W e1 e2 e3 e4 e5 c nx
  subst e1 e2 e3 e4 e5
  exact (ss_cons (ss_if (st_w (sw_or (st_not (st_val (se_cb c.h clr_isi (f_isinstance g cc) bb_isinstance (sa_cons (se_var c.h 0) (sa_cons (se_bty c.h (f_tuple g cc) bb_tuple) sa_nil))))) (sw_or (st_cmp (opr_ne c.at_.u64) (se_cb c.h clr_len (f_len g cc) bb_len (sa_cons (se_var c.h 0) sa_nil)) se_int) (sw_or1 (st_not (st_val (se_cb c.h (clr_all c.calm) (f_all g cc) bb_all (sa_cons (se_lcC c.toCE [("one", 1)] (si_any (se_var c.h 0)) (fun s H C cl fp bt b1 => (stg_name b1.h b1.nd 1 (.inr (by kernel_rfl)))) (fun s H C cl fp bt b1 => sifs_nil) (fun s H C cl fp bt b1 => (se_fn b1.h h_is_integer (b1.at_.mono (by decide)) (Takes.WF _) (sa_cons (se_var b1.h 1) sa_nil)))) sa_nil)))))))) (ss_one (ss_ret se_bl)) ss_nil) (ss_one (ss_ret (se_and (se_cmp opr_ge (se_ix (se_var c.h 0) se_int) se_int) (se_one (se_cmp (opr_eq c.at_.u64) (se_fn c.h h_common_divisor (c.at_.mono (by decide)) c.tk (sa_cons (se_ix (se_var c.h 0) se_int) (sa_cons (se_ix (se_var c.h 0) se_int) sa_nil))) se_int))))))
theorem ok_require_number (g : Gl2 K mg) (cc : CC K) (h_is_number : FnT P w K mg base 2 "is_number" 1 M_is_number) : FnT P w K mg base 3 "require_number" 1 M_require_number := by
  obtain ⟨fd, F⟩ := cc.def_ 3 (d := d_require_number) rfl
  refine fnT_of (st := top 11) (N := N_require_number) (ps := ["value"]) (fb := b_require_number) F ⟨rfl, rfl, rfl, by decide +kernel, rfl, by decide +kernel, by decide +kernel⟩ .pu (g_require_number g cc) rfl (F.bindsN fun _ _ _ _ _ _ us hl => match us, hl with | [_], _ => rfl) ?_
  intro X bt W e1 e2 e3 e4 e5 c nx
  subst e1 e2 e3 e4 e5
  exact (ss_one (ss_if (st_not (st_val (se_fn c.h h_is_number (c.at_.mono (by decide)) c.tk (sa_cons (se_var c.h 0) sa_nil)))) (ss_one ss_no) ss_nil))
theorem ok_is_plain_row (g : Gl2 K mg) (cc : CC K) (h_is_number : FnT P w K mg base 2 "is_number" 1 M_is_number) : FnT P w K mg base 3 "is_plain_row" 2 M_is_plain_row := by
  obtain ⟨fd, F⟩ := cc.def_ 4 (d := d_is_plain_row) rfl
  refine fnT_of (st := top 13) (N := N_is_plain_row) (ps := ["width", "value"]) (fb := b_is_plain_row) F ⟨rfl, rfl, rfl, by decide +kernel, rfl, by decide +kernel, by decide +kernel⟩ .pu (g_is_plain_row g cc) rfl (F.bindsN fun _ _ _ _ _ _ us hl => match us, hl with | [_, _], _ => rfl) ?_
  intro X bt W e1 e2 e3 e4 e5 c nx
  subst e1 e2 e3 e4 e5
  exact (ss_one (ss_ret (se_and (se_cb c.h clr_isi (f_isinstance g cc) bb_isinstance (sa_cons (se_var c.h 1) (sa_cons (se_bty c.h (f_tuple g cc) bb_tuple) sa_nil))) (se_and (se_cmp (opr_eq c.at_.u64) (se_cb c.h clr_len (f_len g cc) bb_len (sa_cons (se_var c.h 1) sa_nil)) (se_var c.h 0)) (se_one (se_cb c.h (clr_all c.calm) (f_all g cc) bb_all (sa_cons (se_lcC c.toCE [("one", 2)] (si_any (se_var c.h 1)) (fun s H C cl fp bt b1 => (stg_name b1.h b1.nd 2 (.inr (by kernel_rfl)))) (fun s H C cl fp bt b1 => sifs_nil) (fun s H C cl fp bt b1 => (se_fn b1.h h_is_number (b1.at_.mono (by decide)) (Takes.WF _) (sa_cons (se_var b1.h 2) sa_nil)))) sa_nil)))))))
theorem ok_require_text (g : Gl2 K mg) (cc : CC K)  : FnT P w K mg base 1 "require_text" 1 M_require_text := by
  obtain ⟨fd, F⟩ := cc.def_ 5 (d := d_require_text) rfl
  refine fnT_of (st := top 22) (N := N_require_text) (ps := ["text"]) (fb := b_require_text) F ⟨rfl, rfl, rfl, by decide +kernel, rfl, by decide +kernel, by decide +kernel⟩ .pu (g_require_text g cc) rfl (F.bindsN fun _ _ _ _ _ _ us hl => match us, hl with | [_], _ => rfl) ?_
  intro X bt W e1 e2 e3 e4 e5 c nx
  subst e1 e2 e3 e4 e5
  exact (ss_cons (ss_if (st_cmp opr_gt (se_cb c.h clr_len (f_len g cc) bb_len (sa_cons (se_var c.h 0) sa_nil)) (se_glo c.h (glD_int (i_MAX_TEXT g cc)))) (ss_one ss_no) ss_nil) (ss_one (ss_ret (se_var c.h 0))))
theorem ok_require_sizes (g : Gl2 K mg) (cc : CC K)  : FnT P w K mg base 1 "require_sizes" 1 M_require_sizes := by
  obtain ⟨fd, F⟩ := cc.def_ 6 (d := d_require_sizes) rfl
  refine fnT_of (st := top 23) (N := N_require_sizes) (ps := ["rows"]) (fb := b_require_sizes) F ⟨rfl, rfl, rfl, by decide +kernel, rfl, by decide +kernel, by decide +kernel⟩ .pu (g_require_sizes g cc) rfl (F.bindsN fun _ _ _ _ _ _ us hl => match us, hl with | [_], _ => rfl) ?_
  intro X bt W e1 e2 e3 e4 e5 c nx
  subst e1 e2 e3 e4 e5
  exact (ss_one (ss_for c.pas c.calm (si_any (se_var c.h 0)) (stg_name c.h c.nd 1 (.inl (c.fn _))) (ss_one (ss_if (st_val (se_cb c.h (clr_any c.calm) (f_any g cc) bb_any (sa_cons (se_lcC c.toCE [("top", 2), ("bottom", 3)] (si_any (se_var c.h 1)) (fun s H C cl fp bt b1 => (stg_tup b1.calm (stgs_cons (stg_name b1.h b1.nd 2 (.inr (by kernel_rfl))) (stgs_cons (stg_name b1.h b1.nd 3 (.inr (by kernel_rfl))) stgs_nil)))) (fun s H C cl fp bt b1 => sifs_nil) (fun s H C cl fp bt b1 => (se_or (se_cmp opr_ge (se_cb b1.h clr_abs (f_abs g cc) bb_abs (sa_cons (se_var b1.h 2) sa_nil)) (se_glo b1.h (glD_int (i_MOST_WRITTEN g cc)))) (se_one (se_cmp opr_ge (se_var b1.h 3) (se_glo b1.h (glD_int (i_MOST_WRITTEN g cc)))))))) sa_nil))) (ss_one ss_no) ss_nil))))
theorem ok_number_text (g : Gl2 K mg) (cc : CC K)  : FnT P w K mg base 1 "number_text" 1 M_number_text := by
  obtain ⟨fd, F⟩ := cc.def_ 7 (d := d_number_text) rfl
  refine fnT_of (st := top 24) (N := N_number_text) (ps := ["number"]) (fb := b_number_text) F ⟨rfl, rfl, rfl, by decide +kernel, rfl, by decide +kernel, by decide +kernel⟩ .pu (g_number_text g cc) rfl (F.bindsN fun _ _ _ _ _ _ us hl => match us, hl with | [_], _ => rfl) ?_
  intro X bt W e1 e2 e3 e4 e5 c nx
  subst e1 e2 e3 e4 e5
  exact (ss_one (ss_ret (se_if (st_cmp (opr_eq c.at_.u64) (se_ix (se_var c.h 0) se_int) se_int) (se_ct c.h clr_str (f_str g cc) bb_str (sa_cons (se_ix (se_var c.h 0) se_int) sa_nil)) (se_js (.cons (se_fmt (se_ix (se_var c.h 0) se_int)) (.cons se_str (.cons (se_fmt (se_ix (se_var c.h 0) se_int)) .nil)))))))
theorem ok_row_text (g : Gl2 K mg) (cc : CC K) (h_number_text : FnT P w K mg base 1 "number_text" 1 M_number_text) : FnT P w K mg base 2 "row_text" 1 M_row_text := by
  obtain ⟨fd, F⟩ := cc.def_ 8 (d := d_row_text) rfl
  refine fnT_of (st := top 25) (N := N_row_text) (ps := ["row"]) (fb := b_row_text) F ⟨rfl, rfl, rfl, by decide +kernel, rfl, by decide +kernel, by decide +kernel⟩ .pu (g_row_text g cc) rfl (F.bindsN fun _ _ _ _ _ _ us hl => match us, hl with | [_], _ => rfl) ?_
  intro X bt W e1 e2 e3 e4 e5 c nx
  subst e1 e2 e3 e4 e5
  exact (ss_one (ss_ret (se_if (st_cmp (opr_eq c.at_.u64) (se_var c.h 0) (se_tup sa_nil)) (se_glo c.h (glD_str (s_NONE g cc))) (se_join se_str (se_lcC c.toCE [("number", 1)] (si_any (se_var c.h 0)) (fun s H C cl fp bt b1 => (stg_name b1.h b1.nd 1 (.inr (by kernel_rfl)))) (fun s H C cl fp bt b1 => sifs_nil) (fun s H C cl fp bt b1 => (se_fn b1.h h_number_text (b1.at_.mono (by decide)) (Takes.WF _) (sa_cons (se_var b1.h 1) sa_nil))))))))
theorem ok_format_number (g : Gl2 K mg) (cc : CC K) (h_require_number : FnT P w K mg base 3 "require_number" 1 M_require_number) (h_require_sizes : FnT P w K mg base 1 "require_sizes" 1 M_require_sizes) (h_number_text : FnT P w K mg base 1 "number_text" 1 M_number_text) (h_require_text : FnT P w K mg base 1 "require_text" 1 M_require_text) : FnT P w K mg base 4 "format_number" 1 M_format_number := by
  obtain ⟨fd, F⟩ := cc.def_ 9 (d := d_format_number) rfl
  refine fnT_of (st := top 26) (N := N_format_number) (ps := ["value"]) (fb := b_format_number) F ⟨rfl, rfl, rfl, by decide +kernel, rfl, by decide +kernel, by decide +kernel⟩ .pu (g_format_number g cc) rfl (F.bindsN fun _ _ _ _ _ _ us hl => match us, hl with | [_], _ => rfl) ?_
  intro X bt W e1 e2 e3 e4 e5 c nx
  subst e1 e2 e3 e4 e5
  exact (ss_cons (ss_expr (se_fn c.h h_require_number (c.at_.mono (by decide)) c.tk (sa_cons (se_var c.h 0) sa_nil))) (ss_cons (ss_expr (se_fn c.h h_require_sizes (c.at_.mono (by decide)) c.tk (sa_cons (se_lst (sa_cons (se_tup (sa_cons (se_var c.h 0) sa_nil)) sa_nil)) sa_nil))) (ss_one (ss_ret (se_fn c.h h_require_text (c.at_.mono (by decide)) c.tk (sa_cons (se_fn c.h h_number_text (c.at_.mono (by decide)) c.tk (sa_cons (se_var c.h 0) sa_nil)) sa_nil))))))
theorem ok_is_any_row (g : Gl2 K mg) (cc : CC K) (h_is_plain_row : FnT P w K mg base 3 "is_plain_row" 2 M_is_plain_row) : FnT P w K mg base 4 "is_any_row" 1 M_is_any_row := by
  obtain ⟨fd, F⟩ := cc.def_ 10 (d := d_is_any_row) rfl
  refine fnT_of (st := top 27) (N := N_is_any_row) (ps := ["value"]) (fb := b_is_any_row) F ⟨rfl, rfl, rfl, by decide +kernel, rfl, by decide +kernel, by decide +kernel⟩ .pu (g_is_any_row g cc) rfl (F.bindsN fun _ _ _ _ _ _ us hl => match us, hl with | [_], _ => rfl) ?_
  intro X bt W e1 e2 e3 e4 e5 c nx
  subst e1 e2 e3 e4 e5
  exact (ss_one (ss_ret (se_and (se_cb c.h clr_isi (f_isinstance g cc) bb_isinstance (sa_cons (se_var c.h 0) (sa_cons (se_bty c.h (f_tuple g cc) bb_tuple) sa_nil))) (se_one (se_fn c.h h_is_plain_row (c.at_.mono (by decide)) c.tk (sa_cons (se_cb c.h clr_len (f_len g cc) bb_len (sa_cons (se_var c.h 0) sa_nil)) (sa_cons (se_var c.h 0) sa_nil)))))))
theorem ok_format_row (g : Gl2 K mg) (cc : CC K) (h_is_any_row : FnT P w K mg base 4 "is_any_row" 1 M_is_any_row) (h_require_sizes : FnT P w K mg base 1 "require_sizes" 1 M_require_sizes) (h_row_text : FnT P w K mg base 2 "row_text" 1 M_row_text) (h_require_text : FnT P w K mg base 1 "require_text" 1 M_require_text) : FnT P w K mg base 5 "format_row" 1 M_format_row := by
  obtain ⟨fd, F⟩ := cc.def_ 11 (d := d_format_row) rfl
  refine fnT_of (st := top 28) (N := N_format_row) (ps := ["value"]) (fb := b_format_row) F ⟨rfl, rfl, rfl, by decide +kernel, rfl, by decide +kernel, by decide +kernel⟩ .pu (g_format_row g cc) rfl (F.bindsN fun _ _ _ _ _ _ us hl => match us, hl with | [_], _ => rfl) ?_
  intro X bt W e1 e2 e3 e4 e5 c nx
  subst e1 e2 e3 e4 e5
  exact (ss_cons (ss_if (st_not (st_val (se_fn c.h h_is_any_row (c.at_.mono (by decide)) c.tk (sa_cons (se_var c.h 0) sa_nil)))) (ss_one ss_no) ss_nil) (ss_cons (ss_expr (se_fn c.h h_require_sizes (c.at_.mono (by decide)) c.tk (sa_cons (se_lst (sa_cons (se_var c.h 0) sa_nil)) sa_nil))) (ss_one (ss_ret (se_fn c.h h_require_text (c.at_.mono (by decide)) c.tk (sa_cons (se_fn c.h h_row_text (c.at_.mono (by decide)) c.tk (sa_cons (se_var c.h 0) sa_nil)) sa_nil))))))
theorem ok_whole_in (g : Gl2 K mg) (cc : CC K)  : FnT P w K mg base 1 "whole_in" 1 M_whole_in := by
  obtain ⟨fd, F⟩ := cc.def_ 12 (d := d_whole_in) rfl
  refine fnT_of (st := top 29) (N := N_whole_in) (ps := ["word"]) (fb := b_whole_in) F ⟨rfl, rfl, rfl, by decide +kernel, rfl, by decide +kernel, by decide +kernel⟩ .pu (g_whole_in g cc) rfl (F.bindsN fun _ _ _ _ _ _ us hl => match us, hl with | [_], _ => rfl) ?_
  intro X bt W e1 e2 e3 e4 e5 c nx
  subst e1 e2 e3 e4 e5
  exact (ss_cons (ss_if (st_w (sw_or (st_cmp (opr_eq c.at_.u64) (se_var c.h 0) se_str) (sw_or (st_val (se_cb c.h (clr_any c.calm) (f_any g cc) bb_any (sa_cons (se_lcC c.toCE [("sign", 1)] (si_any (se_var c.h 0)) (fun s H C cl fp bt b1 => (stg_name b1.h b1.nd 1 (.inr (by kernel_rfl)))) (fun s H C cl fp bt b1 => sifs_nil) (fun s H C cl fp bt b1 => (se_cmp (opr_notIn b1.at_.u65) (se_var b1.h 1) (se_glo b1.h (glD_str (s_DIGITS g cc)))))) sa_nil))) (sw_or1 (st_w (sw_and (st_cmp (opr_eq c.at_.u64) (se_ix (se_var c.h 0) se_int) se_str) (sw_and1 (st_cmp (opr_ne c.at_.u64) (se_var c.h 0) se_str)))))))) (ss_one (ss_ret se_non)) ss_nil) (ss_one (ss_ret (se_if (st_cmp opr_le (se_cb c.h clr_len (f_len g cc) bb_len (sa_cons (se_var c.h 0) sa_nil)) (se_glo c.h (glD_int (i_MAX_DIGITS g cc)))) (se_ct c.h clr_int (f_int g cc) bb_int (sa_cons (se_var c.h 0) sa_nil)) se_non))))
theorem ok_number_in (g : Gl2 K mg) (cc : CC K) (h_whole_in : FnT P w K mg base 1 "whole_in" 1 M_whole_in) (h_is_number : FnT P w K mg base 2 "is_number" 1 M_is_number) (h_number_text : FnT P w K mg base 1 "number_text" 1 M_number_text) : FnT P w K mg base 3 "number_in" 1 M_number_in := by
  obtain ⟨fd, F⟩ := cc.def_ 13 (d := d_number_in) rfl
  refine fnT_of (st := top 30) (N := N_number_in) (ps := ["word"]) (fb := b_number_in) F ⟨rfl, rfl, rfl, by decide +kernel, rfl, by decide +kernel, by decide +kernel⟩ .pu (g_number_in g cc) rfl (F.bindsN fun _ _ _ _ _ _ us hl => match us, hl with | [_], _ => rfl) ?_
  intro X bt W e1 e2 e3 e4 e5 c nx
  subst e1 e2 e3 e4 e5
  exact (ss_cons (ss_set c.h c.nd 1 (.inl (c.fn _)) (se_split (se_if (st_cmp (opr_eq c.at_.u64) (se_sl (se_var c.h 0) so_none (so_some se_int)) se_str) (se_sl (se_var c.h 0) (so_some se_int) so_none) (se_var c.h 0)) se_str)) (ss_cons (ss_setLcC c.toCE 2 [("part", 5)] (by kernel_rfl) (si_any (se_var c.h 1)) (fun s H C cl fp bt b1 => (stg_name b1.h b1.nd 5 (.inr (by kernel_rfl)))) (fun s H C cl fp bt b1 => sifs_nil) (fun s H C cl fp bt b1 => (se_fn b1.h h_whole_in (b1.at_.mono (by decide)) (Takes.WF _) (sa_cons (se_var b1.h 5) sa_nil)))) (ss_cons (ss_if (st_w (sw_or (st_cmp opr_gt (se_cb c.h clr_len (f_len g cc) bb_len (sa_cons (se_var c.h 2) sa_nil)) se_int) (sw_or1 (st_cmp (opr_in c.at_.u65) se_non (se_var c.h 2))))) (ss_one (ss_ret se_non)) ss_nil) (ss_cons (ss_set c.h c.nd 3 (.inl (c.fn _)) (se_if (st_cmp (opr_eq c.at_.u64) (se_sl (se_var c.h 0) so_none (so_some se_int)) se_str) (se_bin opr_sub se_int (se_ix (se_var c.h 2) se_int)) (se_ix (se_var c.h 2) se_int))) (ss_cons (ss_set c.h c.nd 4 (.inl (c.fn _)) (se_tup (sa_cons (se_var c.h 3) (sa_cons (se_if (st_cmp (opr_eq c.at_.u64) (se_cb c.h clr_len (f_len g cc) bb_len (sa_cons (se_var c.h 2) sa_nil)) se_int) se_int (se_ix (se_var c.h 2) se_int)) sa_nil)))) (ss_one (ss_ret (se_if (st_w (sw_and (st_val (se_fn c.h h_is_number (c.at_.mono (by decide)) c.tk (sa_cons (se_var c.h 4) sa_nil))) (sw_and1 (st_cmp (opr_eq c.at_.u64) (se_fn c.h h_number_text (c.at_.mono (by decide)) c.tk (sa_cons (se_var c.h 4) sa_nil)) (se_var c.h 0))))) (se_var c.h 4) se_non))))))))
theorem ok_row_in (g : Gl2 K mg) (cc : CC K) (h_number_in : FnT P w K mg base 3 "number_in" 1 M_number_in) : FnT P w K mg base 4 "row_in" 1 M_row_in := by
  obtain ⟨fd, F⟩ := cc.def_ 14 (d := d_row_in) rfl
  refine fnT_of (st := top 31) (N := N_row_in) (ps := ["text"]) (fb := b_row_in) F ⟨rfl, rfl, rfl, by decide +kernel, rfl, by decide +kernel, by decide +kernel⟩ .pu (g_row_in g cc) rfl (F.bindsN fun _ _ _ _ _ _ us hl => match us, hl with | [_], _ => rfl) ?_
  intro X bt W e1 e2 e3 e4 e5 c nx
  subst e1 e2 e3 e4 e5
  exact (ss_cons (ss_if (st_cmp (opr_eq c.at_.u64) (se_var c.h 0) (se_glo c.h (glD_str (s_NONE g cc)))) (ss_one (ss_ret (se_tup sa_nil))) ss_nil) (ss_cons (ss_setLcC c.toCE 1 [("word", 2)] (by kernel_rfl) (si_any (se_split (se_var c.h 0) se_str)) (fun s H C cl fp bt b1 => (stg_name b1.h b1.nd 2 (.inr (by kernel_rfl)))) (fun s H C cl fp bt b1 => sifs_nil) (fun s H C cl fp bt b1 => (se_fn b1.h h_number_in (b1.at_.mono (by decide)) (Takes.WF _) (sa_cons (se_var b1.h 2) sa_nil)))) (ss_one (ss_ret (se_if (st_cmp (opr_in c.at_.u65) se_non (se_var c.h 1)) se_non (se_ct c.h clr_tup (f_tuple g cc) bb_tuple (sa_cons (se_var c.h 1) sa_nil)))))))
theorem ok_lines_of (g : Gl2 K mg) (cc : CC K)  : FnT P w K mg base 1 "lines_of" 1 M_lines_of := by
  obtain ⟨fd, F⟩ := cc.def_ 15 (d := d_lines_of) rfl
  refine fnT_of (st := top 32) (N := N_lines_of) (ps := ["text"]) (fb := b_lines_of) F ⟨rfl, rfl, rfl, by decide +kernel, rfl, by decide +kernel, by decide +kernel⟩ .pu (g_lines_of g cc) rfl (F.bindsN fun _ _ _ _ _ _ us hl => match us, hl with | [_], _ => rfl) ?_
  intro X bt W e1 e2 e3 e4 e5 c nx
  subst e1 e2 e3 e4 e5
  exact (ss_cons (ss_if (st_not (st_val (se_cb c.h clr_isi (f_isinstance g cc) bb_isinstance (sa_cons (se_var c.h 0) (sa_cons (se_bty c.h (f_str g cc) bb_str) sa_nil))))) (ss_one ss_no) ss_nil) (ss_one (ss_ret (se_split (se_var c.h 0) (se_glo c.h (glD_str (s_LINE_END g cc)))))))
theorem ok_telling_text (g : Gl2 K mg) (cc : CC K) (h_row_text : FnT P w K mg base 2 "row_text" 1 M_row_text) : FnT P w K mg base 3 "telling_text" 1 M_telling_text := by
  obtain ⟨fd, F⟩ := cc.def_ 16 (d := d_telling_text) rfl
  refine fnT_of (st := top 36) (N := N_telling_text) (ps := ["telling"]) (fb := b_telling_text) F ⟨rfl, rfl, rfl, by decide +kernel, rfl, by decide +kernel, by decide +kernel⟩ .pu (g_telling_text g cc) rfl (F.bindsN fun _ _ _ _ _ _ us hl => match us, hl with | [_], _ => rfl) ?_
  intro X bt W e1 e2 e3 e4 e5 c nx
  subst e1 e2 e3 e4 e5
  exact (ss_one (ss_ret (se_join (se_glo c.h (glD_str (s_COMMA g cc))) (se_lcC c.toCE [("row", 1)] (si_any (se_var c.h 0)) (fun s H C cl fp bt b1 => (stg_name b1.h b1.nd 1 (.inr (by kernel_rfl)))) (fun s H C cl fp bt b1 => sifs_nil) (fun s H C cl fp bt b1 => (se_fn b1.h h_row_text (b1.at_.mono (by decide)) (Takes.WF _) (sa_cons (se_var b1.h 1) sa_nil)))))))
theorem ok_format_telling (g : Gl2 K mg) (cc : CC K) (h_is_any_row : FnT P w K mg base 4 "is_any_row" 1 M_is_any_row) (h_require_sizes : FnT P w K mg base 1 "require_sizes" 1 M_require_sizes) (h_telling_text : FnT P w K mg base 3 "telling_text" 1 M_telling_text) (h_require_text : FnT P w K mg base 1 "require_text" 1 M_require_text) : FnT P w K mg base 5 "format_telling" 1 M_format_telling := by
  obtain ⟨fd, F⟩ := cc.def_ 17 (d := d_format_telling) rfl
  refine fnT_of (st := top 37) (N := N_format_telling) (ps := ["value"]) (fb := b_format_telling) F ⟨rfl, rfl, rfl, by decide +kernel, rfl, by decide +kernel, by decide +kernel⟩ .pu (g_format_telling g cc) rfl (F.bindsN fun _ _ _ _ _ _ us hl => match us, hl with | [_], _ => rfl) ?_
  intro X bt W e1 e2 e3 e4 e5 c nx
  subst e1 e2 e3 e4 e5
  exact (ss_cons (ss_if (st_w (sw_or (st_not (st_val (se_cb c.h clr_isi (f_isinstance g cc) bb_isinstance (sa_cons (se_var c.h 0) (sa_cons (se_bty c.h (f_tuple g cc) bb_tuple) sa_nil))))) (sw_or (st_cmp (opr_eq c.at_.u64) (se_var c.h 0) (se_tup sa_nil)) (sw_or1 (st_not (st_val (se_cb c.h (clr_all c.calm) (f_all g cc) bb_all (sa_cons (se_lcC c.toCE [("row", 1)] (si_any (se_var c.h 0)) (fun s H C cl fp bt b1 => (stg_name b1.h b1.nd 1 (.inr (by kernel_rfl)))) (fun s H C cl fp bt b1 => sifs_nil) (fun s H C cl fp bt b1 => (se_fn b1.h h_is_any_row (b1.at_.mono (by decide)) (Takes.WF _) (sa_cons (se_var b1.h 1) sa_nil)))) sa_nil)))))))) (ss_one ss_no) ss_nil) (ss_cons (ss_expr (se_fn c.h h_require_sizes (c.at_.mono (by decide)) c.tk (sa_cons (se_var c.h 0) sa_nil))) (ss_one (ss_ret (se_fn c.h h_require_text (c.at_.mono (by decide)) c.tk (sa_cons (se_fn c.h h_telling_text (c.at_.mono (by decide)) c.tk (sa_cons (se_var c.h 0) sa_nil)) sa_nil))))))
theorem ok_telling_in (g : Gl2 K mg) (cc : CC K) (h_row_in : FnT P w K mg base 4 "row_in" 1 M_row_in) : FnT P w K mg base 5 "telling_in" 1 M_telling_in := by
  obtain ⟨fd, F⟩ := cc.def_ 18 (d := d_telling_in) rfl
  refine fnT_of (st := top 38) (N := N_telling_in) (ps := ["text"]) (fb := b_telling_in) F ⟨rfl, rfl, rfl, by decide +kernel, rfl, by decide +kernel, by decide +kernel⟩ .pu (g_telling_in g cc) rfl (F.bindsN fun _ _ _ _ _ _ us hl => match us, hl with | [_], _ => rfl) ?_
  intro X bt W e1 e2 e3 e4 e5 c nx
  subst e1 e2 e3 e4 e5
  exact (ss_cons (ss_setLcC c.toCE 1 [("part", 2)] (by kernel_rfl) (si_any (se_split (se_var c.h 0) (se_glo c.h (glD_str (s_COMMA g cc))))) (fun s H C cl fp bt b1 => (stg_name b1.h b1.nd 2 (.inr (by kernel_rfl)))) (fun s H C cl fp bt b1 => sifs_nil) (fun s H C cl fp bt b1 => (se_fn b1.h h_row_in (b1.at_.mono (by decide)) (Takes.WF _) (sa_cons (se_var b1.h 2) sa_nil)))) (ss_one (ss_ret (se_if (st_cmp (opr_in c.at_.u65) se_non (se_var c.h 1)) se_non (se_ct c.h clr_tup (f_tuple g cc) bb_tuple (sa_cons (se_var c.h 1) sa_nil))))))
theorem T_read_ok (h_number_in : FnT P w K mg base 3 "number_in" 1 M_number_in) (h_row_in : FnT P w K mg base 4 "row_in" 1 M_row_in) (h_telling_in : FnT P w K mg base 5 "telling_in" 1 M_telling_in) : TabOk P w K mg base 5 T_read := by
  intro x n M h
  unfold T_read at h
  split at h
  · cases h
    rename_i e
    rw [e]
    exact h_number_in.mono (by decide)
  split at h
  · cases h
    rename_i e
    rw [e]
    exact h_row_in.mono (by decide)
  split at h
  · cases h
    rename_i e
    rw [e]
    exact h_telling_in.mono (by decide)
  cases h
theorem ok__law_dice (g : Gl2 K mg) (cc : CC K)  : FnT P w K mg base 1 "_law_dice" 2 M__law_dice := by
  obtain ⟨fd, F⟩ := cc.def_ 19 (d := d__law_dice) rfl
  refine fnT_of (st := top 41) (N := N__law_dice) (ps := ["script", "spot"]) (fb := b__law_dice) F ⟨rfl, rfl, rfl, by decide +kernel, rfl, by decide +kernel, by decide +kernel⟩ .st (g__law_dice g cc) rfl (F.bindsN fun _ _ _ _ _ _ us hl => match us, hl with | [_, _], _ => rfl) ?_
  intro X bt W e1 e2 e3 e4 e5 c nx
  subst e1 e2 e3 e4 e5
  exact (ss_cons (ss_set c.h c.nd 2 (.inl (c.fn _)) (se_if (st_cmp opr_lt (se_var c.h 1) (se_cb c.h clr_len (f_len g cc) bb_len (sa_cons (se_var c.h 0) sa_nil))) (se_ct c.h clr_int (f_int g cc) bb_int (sa_cons (se_ix (se_var c.h 0) (se_var c.h 1)) sa_nil)) (se_bin opr_add (se_bin opr_mul se_int (se_var c.h 1)) se_int))) (ss_cons (ss_set c.h c.nd 3 (.inl (c.fn _)) (se_bin opr_mod (se_ct c.h clr_int (f_int g cc) bb_int (sa_cons (se_cb c.h clr_abs (f_abs g cc) bb_abs (sa_cons (se_var c.h 2) sa_nil)) sa_nil)) (se_bin opr_pow (se_bin opr_pow se_int se_int) se_int))) (ss_cons (ss_set c.h c.nd 4 (.inl (c.fn _)) (se_bin opr_add (se_bin opr_add (se_bin opr_add (se_bin opr_mul (se_bin opr_mod (se_var c.h 3) se_int) se_int) (se_bin opr_mul se_int (se_var c.h 1))) (se_bin opr_mul se_int (se_ct c.h clr_int (f_int g cc) bb_int (sa_cons (se_cmp opr_lt (se_var c.h 2) se_int) sa_nil)))) se_int)) (ss_one (ss_ret (se_lstM (sa_cons (se_cb c.h (clr_max c.calm) (f_max g cc) bb_max (sa_cons se_int (sa_cons (se_bin opr_sub (se_var c.h 3) (se_bin opr_pow se_int se_int)) sa_nil))) (sa_cons (se_var c.h 4) (sa_cons se_int sa_nil)))))))))
theorem ok__law_roll (g : Gl2 K mg) (cc : CC K)  : FnT P w K mg base 1 "_law_roll" 2 M__law_roll := by
  obtain ⟨fd, F⟩ := cc.def_ 20 (d := d__law_roll) rfl
  refine fnT_of (st := top 42) (N := N__law_roll) (ps := ["dice", "total"]) (fb := b__law_roll) F ⟨rfl, rfl, rfl, by decide +kernel, rfl, by decide +kernel, by decide +kernel⟩ .st (g__law_roll g cc) rfl (F.bindsN fun _ _ _ _ _ _ us hl => match us, hl with | [_, _], _ => rfl) ?_
  intro X bt W e1 e2 e3 e4 e5 c nx
  subst e1 e2 e3 e4 e5
  exact (ss_cons (ss_if (st_cmp opr_gt (se_ix (se_var c.h 0) se_int) se_int) (ss_cons (ss_set c.h c.nd 4 (.inl (c.fn _)) (se_bin opr_mod (se_ix (se_var c.h 0) se_int) (se_var c.h 1))) (ss_cons (ss_sub (se_bin opr_div (se_ix (se_var c.h 0) se_int) (se_var c.h 1)) (se_var c.h 0) se_int) (ss_one (ss_ret (se_ct c.h clr_int (f_int g cc) bb_int (sa_cons (se_var c.h 4) sa_nil)))))) ss_nil) (ss_cons (ss_sub (se_bin opr_add (se_ix (se_var c.h 0) se_int) se_int) (se_var c.h 0) se_int) (ss_cons (ss_set c.h c.nd 2 (.inl (c.fn _)) (se_bin opr_mod (se_bin opr_add (se_ix (se_var c.h 0) se_int) (se_bin opr_mul se_int (se_ix (se_var c.h 0) se_int))) se_int)) (ss_cons (ss_set c.h c.nd 3 (.inl (c.fn _)) (se_bin opr_add (se_bin opr_mul (se_bin opr_mod (se_bin opr_add (se_bin opr_mul (se_var c.h 2) (se_var c.h 2)) (se_bin opr_mul se_int (se_ix (se_var c.h 0) se_int))) se_int) se_int) (se_var c.h 2))) (ss_one (ss_ret (se_bin opr_mod (se_ct c.h clr_int (f_int g cc) bb_int (sa_cons (se_bin opr_div (se_var c.h 3) se_int) sa_nil)) (se_var c.h 1))))))))
theorem ok__law_pick (g : Gl2 K mg) (cc : CC K) (h__law_roll : FnT P w K mg base 1 "_law_roll" 2 M__law_roll) : FnT P w K mg base 2 "_law_pick" 2 M__law_pick := by
  obtain ⟨fd, F⟩ := cc.def_ 21 (d := d__law_pick) rfl
  refine fnT_of (st := top 43) (N := N__law_pick) (ps := ["dice", "things"]) (fb := b__law_pick) F ⟨rfl, rfl, rfl, by decide +kernel, rfl, by decide +kernel, by decide +kernel⟩ .st (g__law_pick g cc) rfl (F.bindsN fun _ _ _ _ _ _ us hl => match us, hl with | [_, _], _ => rfl) ?_
  intro X bt W e1 e2 e3 e4 e5 c nx
  subst e1 e2 e3 e4 e5
  exact (ss_one (ss_ret (se_ix (se_var c.h 1) (se_fn c.h h__law_roll (c.at_.mono (by decide)) c.tk (sa_cons (se_var c.h 0) (sa_cons (se_cb c.h clr_len (f_len g cc) bb_len (sa_cons (se_var c.h 1) sa_nil)) sa_nil))))))
theorem ok__law_fr (g : Gl2 K mg) (cc : CC K)  : FnT P w K mg base 1 "_law_fr" 2 M__law_fr := by
  obtain ⟨fd, F⟩ := cc.def_ 22 (d := d__law_fr) rfl
  refine fnT_of (st := top 44) (N := N__law_fr) (ps := ["top", "bottom"]) (fb := b__law_fr) F ⟨rfl, rfl, rfl, by decide +kernel, rfl, by decide +kernel, by decide +kernel⟩ .pu (g__law_fr g cc) rfl (F.bindsN fun _ _ _ _ _ _ us hl => match us, hl with | [_, _], _ => rfl) ?_
  intro X bt W e1 e2 e3 e4 e5 c nx
  subst e1 e2 e3 e4 e5
  exact (ss_cons (ss_pr2 c.h c.calm c.nd 3 4 (sa_cons (se_cb c.h clr_abs (f_abs g cc) bb_abs (sa_cons (se_var c.h 0) sa_nil)) (sa_cons (se_cb c.h clr_abs (f_abs g cc) bb_abs (sa_cons (se_var c.h 1) sa_nil)) sa_nil)) (by kernel_rfl)) (ss_cons (ss_while (fun en _ => natAt en 4 + 1) c.pas (st_cmp opr_gt (se_var c.h 4) se_int) (ss_one (ss_pr2 c.h c.calm c.nd 3 4 (sa_cons (se_var c.h 4) (sa_cons (se_bin opr_mod (se_var c.h 3) (se_var c.h 4)) sa_nil)) (by kernel_rfl)))) (ss_cons (ss_set c.h c.nd 2 (.inl (c.fn _)) (se_if (st_cmp opr_lt (se_var c.h 1) se_int) (se_un unr_neg se_int) se_int)) (ss_one (ss_ret (se_tup (sa_cons (se_bin opr_div (se_bin opr_mul (se_var c.h 2) (se_var c.h 0)) (se_var c.h 3)) (sa_cons (se_bin opr_div (se_bin opr_mul (se_var c.h 2) (se_var c.h 1)) (se_var c.h 3)) sa_nil))))))))
theorem ok__law_number_text (g : Gl2 K mg) (cc : CC K)  : FnT P w K mg base 1 "_law_number_text" 1 M__law_number_text := by
  obtain ⟨fd, F⟩ := cc.def_ 23 (d := d__law_number_text) rfl
  refine fnT_of (st := top 45) (N := N__law_number_text) (ps := ["number"]) (fb := b__law_number_text) F ⟨rfl, rfl, rfl, by decide +kernel, rfl, by decide +kernel, by decide +kernel⟩ .pu (g__law_number_text g cc) rfl (F.bindsN fun _ _ _ _ _ _ us hl => match us, hl with | [_], _ => rfl) ?_
  intro X bt W e1 e2 e3 e4 e5 c nx
  subst e1 e2 e3 e4 e5
  exact (ss_one (ss_ret (se_if (st_cmp (opr_eq c.at_.u64) (se_ix (se_var c.h 0) se_int) se_int) (se_ct c.h clr_str (f_str g cc) bb_str (sa_cons (se_ix (se_var c.h 0) se_int) sa_nil)) (se_bin opr_add (se_bin opr_add (se_ct c.h clr_str (f_str g cc) bb_str (sa_cons (se_ix (se_var c.h 0) se_int) sa_nil)) se_str) (se_ct c.h clr_str (f_str g cc) bb_str (sa_cons (se_ix (se_var c.h 0) se_int) sa_nil))))))
theorem ok__law_row_text (g : Gl2 K mg) (cc : CC K) (h__law_number_text : FnT P w K mg base 1 "_law_number_text" 1 M__law_number_text) : FnT P w K mg base 2 "_law_row_text" 1 M__law_row_text := by
  obtain ⟨fd, F⟩ := cc.def_ 24 (d := d__law_row_text) rfl
  refine fnT_of (st := top 46) (N := N__law_row_text) (ps := ["row"]) (fb := b__law_row_text) F ⟨rfl, rfl, rfl, by decide +kernel, rfl, by decide +kernel, by decide +kernel⟩ .pu (g__law_row_text g cc) rfl (F.bindsN fun _ _ _ _ _ _ us hl => match us, hl with | [_], _ => rfl) ?_
  intro X bt W e1 e2 e3 e4 e5 c nx
  subst e1 e2 e3 e4 e5
  exact (ss_one (ss_ret (se_if (st_cmp (opr_ne c.at_.u64) (se_var c.h 0) (se_tup sa_nil)) (se_join se_str (se_lcC c.toCE [("one", 1)] (si_any (se_var c.h 0)) (fun s H C cl fp bt b1 => (stg_name b1.h b1.nd 1 (.inr (by kernel_rfl)))) (fun s H C cl fp bt b1 => sifs_nil) (fun s H C cl fp bt b1 => (se_fn b1.h h__law_number_text (b1.at_.mono (by decide)) (Takes.WF _) (sa_cons (se_var b1.h 1) sa_nil))))) se_str)))
theorem ok__law_telling_text (g : Gl2 K mg) (cc : CC K) (h__law_row_text : FnT P w K mg base 2 "_law_row_text" 1 M__law_row_text) : FnT P w K mg base 3 "_law_telling_text" 1 M__law_telling_text := by
  obtain ⟨fd, F⟩ := cc.def_ 25 (d := d__law_telling_text) rfl
  refine fnT_of (st := top 47) (N := N__law_telling_text) (ps := ["telling"]) (fb := b__law_telling_text) F ⟨rfl, rfl, rfl, by decide +kernel, rfl, by decide +kernel, by decide +kernel⟩ .pu (g__law_telling_text g cc) rfl (F.bindsN fun _ _ _ _ _ _ us hl => match us, hl with | [_], _ => rfl) ?_
  intro X bt W e1 e2 e3 e4 e5 c nx
  subst e1 e2 e3 e4 e5
  exact (ss_one (ss_ret (se_join se_str (se_lcC c.toCE [("row", 1)] (si_any (se_var c.h 0)) (fun s H C cl fp bt b1 => (stg_name b1.h b1.nd 1 (.inr (by kernel_rfl)))) (fun s H C cl fp bt b1 => sifs_nil) (fun s H C cl fp bt b1 => (se_fn b1.h h__law_row_text (b1.at_.mono (by decide)) (Takes.WF _) (sa_cons (se_var b1.h 1) sa_nil)))))))
theorem ok__law_read_whole (g : Gl2 K mg) (cc : CC K)  : FnT P w K mg base 1 "_law_read_whole" 1 M__law_read_whole := by
  obtain ⟨fd, F⟩ := cc.def_ 26 (d := d__law_read_whole) rfl
  refine fnT_of (st := top 48) (N := N__law_read_whole) (ps := ["text"]) (fb := b__law_read_whole) F ⟨rfl, rfl, rfl, by decide +kernel, rfl, by decide +kernel, by decide +kernel⟩ .pu (g__law_read_whole g cc) rfl (F.bindsN fun _ _ _ _ _ _ us hl => match us, hl with | [_], _ => rfl) ?_
  intro X bt W e1 e2 e3 e4 e5 c nx
  subst e1 e2 e3 e4 e5
  exact (ss_cons (ss_set c.h c.nd 1 (.inl (c.fn _)) (se_if (st_cmp (opr_eq c.at_.u64) (se_sl (se_var c.h 0) so_none (so_some se_int)) se_str) (se_sl (se_var c.h 0) (so_some se_int) so_none) (se_var c.h 0))) (ss_cons (ss_if (st_w (sw_or (st_cmp (opr_eq c.at_.u64) (se_var c.h 1) se_str) (sw_or (st_cmp opr_gt (se_cb c.h clr_len (f_len g cc) bb_len (sa_cons (se_var c.h 1) sa_nil)) se_int) (sw_or1 (st_cmp (opr_ne c.at_.u64) (se_lcC c.toCE [("sign", 3)] (si_any (se_var c.h 1)) (fun s H C cl fp bt b1 => (stg_name b1.h b1.nd 3 (.inr (by kernel_rfl)))) (fun s H C cl fp bt b1 => (sifs_one (st_cmp (opr_notIn b1.at_.u65) (se_var b1.h 3) se_str))) (fun s H C cl fp bt b1 => se_int)) (se_lst sa_nil)))))) (ss_one (ss_ret se_non)) ss_nil) (ss_cons (ss_set c.h c.nd 2 (.inl (c.fn _)) (se_if (st_cmp (opr_eq c.at_.u64) (se_sl (se_var c.h 0) so_none (so_some se_int)) se_str) (se_bin opr_sub se_int (se_ct c.h clr_int (f_int g cc) bb_int (sa_cons (se_var c.h 1) sa_nil))) (se_ct c.h clr_int (f_int g cc) bb_int (sa_cons (se_var c.h 1) sa_nil)))) (ss_one (ss_ret (se_if (st_cmp (opr_eq c.at_.u64) (se_ct c.h clr_str (f_str g cc) bb_str (sa_cons (se_var c.h 2) sa_nil)) (se_var c.h 0)) (se_var c.h 2) se_non))))))
theorem ok__law_read_number (g : Gl2 K mg) (cc : CC K) (h__law_read_whole : FnT P w K mg base 1 "_law_read_whole" 1 M__law_read_whole) (h__law_fr : FnT P w K mg base 1 "_law_fr" 2 M__law_fr) (h__law_number_text : FnT P w K mg base 1 "_law_number_text" 1 M__law_number_text) : FnT P w K mg base 2 "_law_read_number" 1 M__law_read_number := by
  obtain ⟨fd, F⟩ := cc.def_ 27 (d := d__law_read_number) rfl
  refine fnT_of (st := top 49) (N := N__law_read_number) (ps := ["text"]) (fb := b__law_read_number) F ⟨rfl, rfl, rfl, by decide +kernel, rfl, by decide +kernel, by decide +kernel⟩ .pu (g__law_read_number g cc) rfl (F.bindsN fun _ _ _ _ _ _ us hl => match us, hl with | [_], _ => rfl) ?_
  intro X bt W e1 e2 e3 e4 e5 c nx
  subst e1 e2 e3 e4 e5
  exact (ss_cons (ss_set c.h c.nd 1 (.inl (c.fn _)) (se_split (se_var c.h 0) se_str)) (ss_cons (ss_pr2 c.h c.calm c.nd 3 4 (sa_cons (se_fn c.h h__law_read_whole (c.at_.mono (by decide)) c.tk (sa_cons (se_ix (se_var c.h 1) se_int) sa_nil)) (sa_cons (se_if (st_cmp (opr_eq c.at_.u64) (se_cb c.h clr_len (f_len g cc) bb_len (sa_cons (se_var c.h 1) sa_nil)) se_int) (se_fn c.h h__law_read_whole (c.at_.mono (by decide)) c.tk (sa_cons (se_ix (se_var c.h 1) se_int) sa_nil)) se_int) sa_nil)) (by kernel_rfl)) (ss_cons (ss_if (st_w (sw_or (st_cmp opr_gt (se_cb c.h clr_len (f_len g cc) bb_len (sa_cons (se_var c.h 1) sa_nil)) se_int) (sw_or (st_cmp opr_is (se_var c.h 3) se_non) (sw_or (st_cmp opr_is (se_var c.h 4) se_non) (sw_or1 (st_cmp opr_lt (se_var c.h 4) se_int)))))) (ss_one (ss_ret se_non)) ss_nil) (ss_cons (ss_set c.h c.nd 2 (.inl (c.fn _)) (se_fn c.h h__law_fr (c.at_.mono (by decide)) c.tk (sa_cons (se_var c.h 3) (sa_cons (se_var c.h 4) sa_nil)))) (ss_one (ss_ret (se_if (st_cmp (opr_eq c.at_.u64) (se_fn c.h h__law_number_text (c.at_.mono (by decide)) c.tk (sa_cons (se_var c.h 2) sa_nil)) (se_var c.h 0)) (se_var c.h 2) se_non)))))))
theorem ok__law_read_row (g : Gl2 K mg) (cc : CC K) (h__law_read_number : FnT P w K mg base 2 "_law_read_number" 1 M__law_read_number) : FnT P w K mg base 3 "_law_read_row" 1 M__law_read_row := by
  obtain ⟨fd, F⟩ := cc.def_ 28 (d := d__law_read_row) rfl
  refine fnT_of (st := top 50) (N := N__law_read_row) (ps := ["text"]) (fb := b__law_read_row) F ⟨rfl, rfl, rfl, by decide +kernel, rfl, by decide +kernel, by decide +kernel⟩ .pu (g__law_read_row g cc) rfl (F.bindsN fun _ _ _ _ _ _ us hl => match us, hl with | [_], _ => rfl) ?_
  intro X bt W e1 e2 e3 e4 e5 c nx
  subst e1 e2 e3 e4 e5
  exact (ss_cons (ss_if (st_cmp (opr_eq c.at_.u64) (se_var c.h 0) se_str) (ss_one (ss_ret (se_tup sa_nil))) ss_nil) (ss_cons (ss_set c.h c.nd 1 (.inl (c.fn _)) (se_ct c.h clr_tup (f_tuple g cc) bb_tuple (sa_cons (se_lcC c.toCE [("part", 2)] (si_any (se_split (se_var c.h 0) se_str)) (fun s H C cl fp bt b1 => (stg_name b1.h b1.nd 2 (.inr (by kernel_rfl)))) (fun s H C cl fp bt b1 => sifs_nil) (fun s H C cl fp bt b1 => (se_fn b1.h h__law_read_number (b1.at_.mono (by decide)) (Takes.WF _) (sa_cons (se_var b1.h 2) sa_nil)))) sa_nil))) (ss_one (ss_ret (se_if (st_cmp (opr_notIn c.at_.u65) se_non (se_var c.h 1)) (se_var c.h 1) se_non)))))
theorem ok__law_read_telling (g : Gl2 K mg) (cc : CC K) (h__law_read_row : FnT P w K mg base 3 "_law_read_row" 1 M__law_read_row) : FnT P w K mg base 4 "_law_read_telling" 1 M__law_read_telling := by
  obtain ⟨fd, F⟩ := cc.def_ 29 (d := d__law_read_telling) rfl
  refine fnT_of (st := top 51) (N := N__law_read_telling) (ps := ["text"]) (fb := b__law_read_telling) F ⟨rfl, rfl, rfl, by decide +kernel, rfl, by decide +kernel, by decide +kernel⟩ .pu (g__law_read_telling g cc) rfl (F.bindsN fun _ _ _ _ _ _ us hl => match us, hl with | [_], _ => rfl) ?_
  intro X bt W e1 e2 e3 e4 e5 c nx
  subst e1 e2 e3 e4 e5
  exact (ss_cons (ss_set c.h c.nd 1 (.inl (c.fn _)) (se_ct c.h clr_tup (f_tuple g cc) bb_tuple (sa_cons (se_lcC c.toCE [("part", 2)] (si_any (se_split (se_var c.h 0) se_str)) (fun s H C cl fp bt b1 => (stg_name b1.h b1.nd 2 (.inr (by kernel_rfl)))) (fun s H C cl fp bt b1 => sifs_nil) (fun s H C cl fp bt b1 => (se_fn b1.h h__law_read_row (b1.at_.mono (by decide)) (Takes.WF _) (sa_cons (se_var b1.h 2) sa_nil)))) sa_nil))) (ss_one (ss_ret (se_if (st_cmp (opr_notIn c.at_.u65) se_non (se_var c.h 1)) (se_var c.h 1) se_non))))
theorem T_due_ok (h__law_read_number : FnT P w K mg base 2 "_law_read_number" 1 M__law_read_number) (h__law_read_row : FnT P w K mg base 3 "_law_read_row" 1 M__law_read_row) (h__law_read_telling : FnT P w K mg base 4 "_law_read_telling" 1 M__law_read_telling) : TabOk P w K mg base 4 T_due := by
  intro x n M h
  unfold T_due at h
  split at h
  · cases h
    rename_i e
    rw [e]
    exact h__law_read_number.mono (by decide)
  split at h
  · cases h
    rename_i e
    rw [e]
    exact h__law_read_row.mono (by decide)
  split at h
  · cases h
    rename_i e
    rw [e]
    exact h__law_read_telling.mono (by decide)
  cases h
theorem ok_one_line (g : Gl2 K mg) (cc : CC K) (hP : P = PySem.Challenge.pw_amongliars_k81_whole_texts_of_numbers_ro) (h_lines_of : FnT P w K mg base 1 "lines_of" 1 M_lines_of) (h_number_in : FnT P w K mg base 3 "number_in" 1 M_number_in) (h_row_in : FnT P w K mg base 4 "row_in" 1 M_row_in) (h_telling_in : FnT P w K mg base 5 "telling_in" 1 M_telling_in) : FnT P w K mg base 6 "one_line" 2 M_one_line := by
  obtain ⟨fd, F⟩ := cc.def_ 30 (d := d_one_line) rfl
  refine fnT_of (st := top 33) (N := N_one_line) (ps := ["text", "read"]) (fb := b_one_line) F ⟨rfl, rfl, rfl, by decide +kernel, rfl, by decide +kernel, by decide +kernel⟩ .pu (g_one_line g cc) rfl (F.bindsN fun _ _ _ _ _ _ us hl => match us, hl with | [_, _], _ => rfl) ?_
  intro X bt W e1 e2 e3 e4 e5 c nx
  subst e1 e2 e3 e4 e5
  exact (ss_cons (ss_set c.h c.nd 2 (.inl (c.fn _)) (se_fn c.h h_lines_of (c.at_.mono (by decide)) c.tk (sa_cons (se_var c.h 0) sa_nil))) (ss_cons (ss_set c.h c.nd 3 (.inl (c.fn _)) (se_fnV c.h 1 (T_read_ok h_number_in h_row_in h_telling_in) (c.at_.mono (by decide)) c.tk (sa_cons (se_ix (se_var c.h 2) se_int) sa_nil))) (ss_cons (ss_if (st_w (sw_or (st_cmp opr_is (se_var c.h 3) se_non) (sw_or1 (st_cmp opr_gt (se_cb c.h clr_len (f_len g cc) bb_len (sa_cons (se_var c.h 2) sa_nil)) se_int)))) (ss_one (ss_raiseI (k := 0) c.h c.calm c.tk (c.at_.mono (by decide)) (x_ParseError g cc hP) (pm_ParseError) (sa_cons (se_if (st_cmp opr_is (se_var c.h 3) se_non) se_int se_int) sa_nil))) ss_nil) (ss_one (ss_ret (se_var c.h 3))))))
theorem ok_parse_number (g : Gl2 K mg) (cc : CC K) (h_one_line : FnT P w K mg base 6 "one_line" 2 M_one_line) : FnT P w K mg base 7 "parse_number" 1 M_parse_number := by
  obtain ⟨fd, F⟩ := cc.def_ 31 (d := d_parse_number) rfl
  refine fnT_of (st := top 34) (N := N_parse_number) (ps := ["text"]) (fb := b_parse_number) F ⟨rfl, rfl, rfl, by decide +kernel, rfl, by decide +kernel, by decide +kernel⟩ .pu (g_parse_number g cc) rfl (F.bindsN fun _ _ _ _ _ _ us hl => match us, hl with | [_], _ => rfl) ?_
  intro X bt W e1 e2 e3 e4 e5 c nx
  subst e1 e2 e3 e4 e5
  exact (ss_one (ss_ret (se_fn c.h h_one_line (c.at_.mono (by decide)) c.tk (sa_cons (se_var c.h 0) (sa_cons (se_glo c.h (glD_ref (g_number_in g cc))) sa_nil)))))
theorem ok_parse_row (g : Gl2 K mg) (cc : CC K) (h_one_line : FnT P w K mg base 6 "one_line" 2 M_one_line) : FnT P w K mg base 7 "parse_row" 1 M_parse_row := by
  obtain ⟨fd, F⟩ := cc.def_ 32 (d := d_parse_row) rfl
  refine fnT_of (st := top 35) (N := N_parse_row) (ps := ["text"]) (fb := b_parse_row) F ⟨rfl, rfl, rfl, by decide +kernel, rfl, by decide +kernel, by decide +kernel⟩ .pu (g_parse_row g cc) rfl (F.bindsN fun _ _ _ _ _ _ us hl => match us, hl with | [_], _ => rfl) ?_
  intro X bt W e1 e2 e3 e4 e5 c nx
  subst e1 e2 e3 e4 e5
  exact (ss_one (ss_ret (se_fn c.h h_one_line (c.at_.mono (by decide)) c.tk (sa_cons (se_var c.h 0) (sa_cons (se_glo c.h (glD_ref (g_row_in g cc))) sa_nil)))))
theorem ok_parse_telling (g : Gl2 K mg) (cc : CC K) (h_one_line : FnT P w K mg base 6 "one_line" 2 M_one_line) : FnT P w K mg base 7 "parse_telling" 1 M_parse_telling := by
  obtain ⟨fd, F⟩ := cc.def_ 33 (d := d_parse_telling) rfl
  refine fnT_of (st := top 39) (N := N_parse_telling) (ps := ["text"]) (fb := b_parse_telling) F ⟨rfl, rfl, rfl, by decide +kernel, rfl, by decide +kernel, by decide +kernel⟩ .pu (g_parse_telling g cc) rfl (F.bindsN fun _ _ _ _ _ _ us hl => match us, hl with | [_], _ => rfl) ?_
  intro X bt W e1 e2 e3 e4 e5 c nx
  subst e1 e2 e3 e4 e5
  exact (ss_one (ss_ret (se_fn c.h h_one_line (c.at_.mono (by decide)) c.tk (sa_cons (se_var c.h 0) (sa_cons (se_glo c.h (glD_ref (g_telling_in g cc))) sa_nil)))))
theorem T_call_ok (h_parse_number : FnT P w K mg base 7 "parse_number" 1 M_parse_number) (h_parse_row : FnT P w K mg base 7 "parse_row" 1 M_parse_row) (h_parse_telling : FnT P w K mg base 7 "parse_telling" 1 M_parse_telling) : TabOk P w K mg base 7 T_call := by
  intro x n M h
  unfold T_call at h
  split at h
  · cases h
    rename_i e
    rw [e]
    exact h_parse_number.mono (by decide)
  split at h
  · cases h
    rename_i e
    rw [e]
    exact h_parse_row.mono (by decide)
  split at h
  · cases h
    rename_i e
    rw [e]
    exact h_parse_telling.mono (by decide)
  cases h
theorem ok__law_spot (g : Gl2 K mg) (cc : CC K) (h_parse_number : FnT P w K mg base 7 "parse_number" 1 M_parse_number) (h_parse_row : FnT P w K mg base 7 "parse_row" 1 M_parse_row) (h_parse_telling : FnT P w K mg base 7 "parse_telling" 1 M_parse_telling) : FnT P w K mg base 8 "_law_spot" 2 M__law_spot := by
  obtain ⟨fd, F⟩ := cc.def_ 34 (d := d__law_spot) rfl
  refine fnT_of (st := top 53) (N := N__law_spot) (ps := ["call", "text"]) (fb := b__law_spot) F ⟨rfl, rfl, rfl, by decide +kernel, rfl, by decide +kernel, by decide +kernel⟩ .pu (g__law_spot g cc) rfl (F.bindsN fun _ _ _ _ _ _ us hl => match us, hl with | [_, _], _ => rfl) ?_
  intro X bt W e1 e2 e3 e4 e5 c nx
  subst e1 e2 e3 e4 e5
  exact (ss_one (ss_try nx c.stk c.frame c.nd c.tk (fun W pn xe tk pas => have c2 := c.tr tk pas; (ss_one (ss_ret (se_tup (sa_cons se_str (sa_cons (se_fnV c2.h 0 (T_call_ok h_parse_number h_parse_row h_parse_telling) (c2.at_.mono (by decide)) c2.tk (sa_cons (se_var c2.h 1) sa_nil)) sa_nil)))))) (.cons (.ref _) (names_of c.h (g_ParseError g cc)) (slot_of c.h) (xm_ParseError_ok g cc) (fun a oe k C d pn hk hm hz hv => have u := c.toCE.suite a ((a, oe) :: pn); have xx := xf_ParseError g cc hk hm; (ss_one (ss_ret (se_tup (sa_cons se_str (sa_cons (se_xf u.h 2 xx.1 xx.2 hz hv) sa_nil)))))) .nil)))
theorem ok__law_bent (g : Gl2 K mg) (cc : CC K) (h__law_roll : FnT P w K mg base 1 "_law_roll" 2 M__law_roll) (h__law_pick : FnT P w K mg base 2 "_law_pick" 2 M__law_pick) : FnT P w K mg base 3 "_law_bent" 2 M__law_bent := by
  obtain ⟨fd, F⟩ := cc.def_ 35 (d := d__law_bent) rfl
  refine fnT_of (st := top 52) (N := N__law_bent) (ps := ["dice", "text"]) (fb := b__law_bent) F ⟨rfl, rfl, rfl, by decide +kernel, rfl, by decide +kernel, by decide +kernel⟩ .st (g__law_bent g cc) rfl (F.bindsN fun _ _ _ _ _ _ us hl => match us, hl with | [_, _], _ => rfl) ?_
  intro X bt W e1 e2 e3 e4 e5 c nx
  subst e1 e2 e3 e4 e5
  exact (ss_cons (ss_pr2 c.h c.calm c.nd 4 5 (sa_cons (se_fn c.h h__law_roll (c.at_.mono (by decide)) c.tk (sa_cons (se_var c.h 0) (sa_cons (se_bin opr_add (se_cb c.h clr_len (f_len g cc) bb_len (sa_cons (se_var c.h 1) sa_nil)) se_int) sa_nil))) (sa_cons (se_bin opr_add (se_ct c.h (clr_lis c.calm) (f_list g cc) bb_list (sa_cons se_str sa_nil)) (se_lst (sa_cons se_str (sa_cons se_str (sa_cons se_str (sa_cons se_str (sa_cons se_str (sa_cons se_str sa_nil)))))))) sa_nil)) (by kernel_rfl)) (ss_cons (ss_set c.h c.nd 2 (.inl (c.fn _)) (se_fn c.h h__law_pick (c.at_.mono (by decide)) c.tk (sa_cons (se_var c.h 0) (sa_cons (se_var c.h 5) sa_nil)))) (ss_cons (ss_set c.h c.nd 3 (.inl (c.fn _)) (se_lstM (sa_cons (se_bin opr_add (se_bin opr_add (se_sl (se_var c.h 1) so_none (so_some (se_var c.h 4))) (se_var c.h 2)) (se_sl (se_var c.h 1) (so_some (se_var c.h 4)) so_none)) (sa_cons (se_bin opr_add (se_sl (se_var c.h 1) so_none (so_some (se_var c.h 4))) (se_sl (se_var c.h 1) (so_some (se_bin opr_add (se_var c.h 4) se_int)) so_none)) (sa_cons (se_bin opr_add (se_bin opr_add (se_sl (se_var c.h 1) so_none (so_some (se_var c.h 4))) (se_var c.h 2)) (se_sl (se_var c.h 1) (so_some (se_bin opr_add (se_var c.h 4) se_int)) so_none)) sa_nil))))) (ss_cons (ss_set c.h c.nd 3 (.inl (c.fn _)) (se_catM (se_var c.h 3) (se_lst (sa_cons (se_bin opr_add (se_bin opr_add (se_sl (se_var c.h 1) so_none (so_some (se_var c.h 4))) (se_bin opr_mul (se_sl (se_var c.h 1) (so_some (se_var c.h 4)) (so_some (se_bin opr_add (se_var c.h 4) se_int))) se_int)) (se_sl (se_var c.h 1) (so_some (se_bin opr_add (se_var c.h 4) se_int)) so_none)) (sa_cons (se_sl (se_var c.h 1) so_none (so_some (se_var c.h 4))) sa_nil))))) (ss_cons (ss_expr (se_app (se_var c.h 3) (sa_cons (se_bin opr_add (se_bin opr_add (se_bin opr_add (se_sl (se_var c.h 1) so_none (so_some (se_var c.h 4))) (se_sl (se_var c.h 1) (so_some (se_bin opr_add (se_var c.h 4) se_int)) (so_some (se_bin opr_add (se_var c.h 4) se_int)))) (se_sl (se_var c.h 1) (so_some (se_var c.h 4)) (so_some (se_bin opr_add (se_var c.h 4) se_int)))) (se_sl (se_var c.h 1) (so_some (se_bin opr_add (se_var c.h 4) se_int)) so_none)) sa_nil))) (ss_one (ss_ret (se_fn c.h h__law_pick (c.at_.mono (by decide)) c.tk (sa_cons (se_var c.h 0) (sa_cons (se_bin opr_add (se_var c.h 3) (se_lst (sa_cons (se_bin opr_add (se_var c.h 1) se_str) (sa_cons (se_bin opr_add se_str (se_var c.h 1)) sa_nil)))) sa_nil))))))))))
theorem ok__law_due (g : Gl2 K mg) (cc : CC K) (h__law_read_number : FnT P w K mg base 2 "_law_read_number" 1 M__law_read_number) (h__law_read_row : FnT P w K mg base 3 "_law_read_row" 1 M__law_read_row) (h__law_read_telling : FnT P w K mg base 4 "_law_read_telling" 1 M__law_read_telling) : FnT P w K mg base 5 "_law_due" 2 M__law_due := by
  obtain ⟨fd, F⟩ := cc.def_ 36 (d := d__law_due) rfl
  refine fnT_of (st := top 54) (N := N__law_due) (ps := ["read", "text"]) (fb := b__law_due) F ⟨rfl, rfl, rfl, by decide +kernel, rfl, by decide +kernel, by decide +kernel⟩ .pu (g__law_due g cc) rfl (F.bindsN fun _ _ _ _ _ _ us hl => match us, hl with | [_, _], _ => rfl) ?_
  intro X bt W e1 e2 e3 e4 e5 c nx
  subst e1 e2 e3 e4 e5
  exact (ss_cons (ss_set c.h c.nd 2 (.inl (c.fn _)) (se_split (se_var c.h 1) se_str)) (ss_cons (ss_if (st_cmp opr_is (se_fnV c.h 0 (T_due_ok h__law_read_number h__law_read_row h__law_read_telling) (c.at_.mono (by decide)) c.tk (sa_cons (se_ix (se_var c.h 2) se_int) sa_nil)) se_non) (ss_one (ss_ret (se_tup (sa_cons se_str (sa_cons se_int sa_nil))))) ss_nil) (ss_one (ss_ret (se_if (st_cmp (opr_eq c.at_.u64) (se_cb c.h clr_len (f_len g cc) bb_len (sa_cons (se_var c.h 2) sa_nil)) se_int) (se_tup (sa_cons se_str (sa_cons (se_fnV c.h 0 (T_due_ok h__law_read_number h__law_read_row h__law_read_telling) (c.at_.mono (by decide)) c.tk (sa_cons (se_var c.h 1) sa_nil)) sa_nil))) (se_tup (sa_cons se_str (sa_cons se_int sa_nil))))))))
theorem ok__law_right (g : Gl2 K mg) (cc : CC K) (h__law_roll : FnT P w K mg base 1 "_law_roll" 2 M__law_roll) (h__law_pick : FnT P w K mg base 2 "_law_pick" 2 M__law_pick) (h__law_fr : FnT P w K mg base 1 "_law_fr" 2 M__law_fr) (h_format_telling : FnT P w K mg base 5 "format_telling" 1 M_format_telling) (h_format_row : FnT P w K mg base 5 "format_row" 1 M_format_row) (h_format_number : FnT P w K mg base 4 "format_number" 1 M_format_number) (h__law_telling_text : FnT P w K mg base 3 "_law_telling_text" 1 M__law_telling_text) (h__law_row_text : FnT P w K mg base 2 "_law_row_text" 1 M__law_row_text) (h__law_number_text : FnT P w K mg base 1 "_law_number_text" 1 M__law_number_text) (h_parse_telling : FnT P w K mg base 7 "parse_telling" 1 M_parse_telling) (h_parse_row : FnT P w K mg base 7 "parse_row" 1 M_parse_row) (h_parse_number : FnT P w K mg base 7 "parse_number" 1 M_parse_number) (h__law_bent : FnT P w K mg base 3 "_law_bent" 2 M__law_bent) (h__law_spot : FnT P w K mg base 8 "_law_spot" 2 M__law_spot) (h__law_due : FnT P w K mg base 5 "_law_due" 2 M__law_due) : FnT P w K mg base 9 "_law_right" 1 M__law_right := by
  obtain ⟨fd, F⟩ := cc.def_ 37 (d := d__law_right) rfl
  refine fnT_of (st := top 55) (N := N__law_right) (ps := ["dice"]) (fb := b__law_right) F ⟨rfl, rfl, rfl, by decide +kernel, rfl, by decide +kernel, by decide +kernel⟩ .st (g__law_right g cc) rfl (F.bindsN fun _ _ _ _ _ _ us hl => match us, hl with | [_], _ => rfl) ?_
  intro X bt W e1 e2 e3 e4 e5 c nx
  subst e1 e2 e3 e4 e5
  exact (ss_cons (ss_set c.h c.nd 1 (.inl (c.fn _)) (se_lst (sa_cons se_int (sa_cons se_int (sa_cons (se_un unr_neg se_int) (sa_cons se_int (sa_cons (se_un unr_neg se_int) (sa_cons se_int (sa_cons (se_bin opr_add (se_bin opr_pow se_int se_int) se_int) (sa_cons (se_bin opr_sub se_int (se_bin opr_pow se_int se_int)) sa_nil)))))))))) (ss_cons (ss_set c.h c.nd 2 (.inl (c.fn _)) (se_lstM sa_nil)) (ss_cons (ss_for c.pas c.calm (si_range1 c.h (f_range g cc) (sa_cons (se_bin opr_add se_int (se_fn c.h h__law_roll (c.at_.mono (by decide)) c.tk (sa_cons (se_var c.h 0) (sa_cons se_int sa_nil)))) sa_nil)) (stg_name c.h c.nd 3 (.inl (c.fn _))) (ss_cons (ss_set c.h c.nd 6 (.inl (c.fn _)) (se_lstM sa_nil)) (ss_cons (ss_for c.pas c.calm (si_range1 c.h (f_range g cc) (sa_cons (se_fn c.h h__law_roll (c.at_.mono (by decide)) c.tk (sa_cons (se_var c.h 0) (sa_cons se_int sa_nil))) sa_nil)) (stg_name c.h c.nd 7 (.inl (c.fn _))) (ss_one (ss_expr (se_app (se_var c.h 6) (sa_cons (se_fn c.h h__law_fr (c.at_.mono (by decide)) c.tk (sa_cons (se_fn c.h h__law_pick (c.at_.mono (by decide)) c.tk (sa_cons (se_var c.h 0) (sa_cons (se_var c.h 1) sa_nil))) (sa_cons (se_fn c.h h__law_pick (c.at_.mono (by decide)) c.tk (sa_cons (se_var c.h 0) (sa_cons (se_lst (sa_cons se_int (sa_cons se_int (sa_cons se_int (sa_cons se_int (sa_cons se_int (sa_cons (se_bin opr_add (se_bin opr_pow se_int se_int) se_int) sa_nil))))))) sa_nil))) sa_nil))) sa_nil))))) (ss_one (ss_expr (se_app (se_var c.h 2) (sa_cons (se_ct c.h clr_tup (f_tuple g cc) bb_tuple (sa_cons (se_var c.h 6) sa_nil)) sa_nil))))))) (ss_cons (ss_pr3 c.h c.calm c.nd 8 6 9 (sa_cons (se_fn c.h h__law_fr (c.at_.mono (by decide)) c.tk (sa_cons (se_fn c.h h__law_pick (c.at_.mono (by decide)) c.tk (sa_cons (se_var c.h 0) (sa_cons (se_var c.h 1) sa_nil))) (sa_cons (se_fn c.h h__law_pick (c.at_.mono (by decide)) c.tk (sa_cons (se_var c.h 0) (sa_cons (se_lst (sa_cons se_int (sa_cons se_int (sa_cons se_int (sa_cons se_int sa_nil))))) sa_nil))) sa_nil))) (sa_cons (se_ix (se_var c.h 2) se_int) (sa_cons (se_ct c.h clr_tup (f_tuple g cc) bb_tuple (sa_cons (se_var c.h 2) sa_nil)) sa_nil))) (by kernel_rfl)) (ss_cons (ss_set c.h c.nd 4 (.inl (c.fn _)) (se_lst (sa_cons (se_fn c.h h_format_number (c.at_.mono (by decide)) c.tk (sa_cons (se_var c.h 8) sa_nil)) (sa_cons (se_fn c.h h_format_row (c.at_.mono (by decide)) c.tk (sa_cons (se_var c.h 6) sa_nil)) (sa_cons (se_fn c.h h_format_telling (c.at_.mono (by decide)) c.tk (sa_cons (se_var c.h 9) sa_nil)) sa_nil))))) (ss_cons (ss_if (st_cmp (opr_ne c.at_.u64) (se_var c.h 4) (se_lst (sa_cons (se_fn c.h h__law_number_text (c.at_.mono (by decide)) c.tk (sa_cons (se_var c.h 8) sa_nil)) (sa_cons (se_fn c.h h__law_row_text (c.at_.mono (by decide)) c.tk (sa_cons (se_var c.h 6) sa_nil)) (sa_cons (se_fn c.h h__law_telling_text (c.at_.mono (by decide)) c.tk (sa_cons (se_var c.h 9) sa_nil)) sa_nil))))) (ss_one (ss_ret se_bl)) ss_nil) (ss_cons (ss_if (st_cmp (opr_ne c.at_.u64) (se_cb c.h (clr_repr c.at_.grd c.at_.u66) (f_repr g cc) bb_repr (sa_cons (se_lst (sa_cons (se_fn c.h h_parse_number (c.at_.mono (by decide)) c.tk (sa_cons (se_ix (se_var c.h 4) se_int) sa_nil)) (sa_cons (se_fn c.h h_parse_row (c.at_.mono (by decide)) c.tk (sa_cons (se_ix (se_var c.h 4) se_int) sa_nil)) (sa_cons (se_fn c.h h_parse_telling (c.at_.mono (by decide)) c.tk (sa_cons (se_ix (se_var c.h 4) se_int) sa_nil)) sa_nil)))) sa_nil)) (se_cb c.h (clr_repr c.at_.grd c.at_.u66) (f_repr g cc) bb_repr (sa_cons (se_lst (sa_cons (se_var c.h 8) (sa_cons (se_var c.h 6) (sa_cons (se_var c.h 9) sa_nil)))) sa_nil))) (ss_one (ss_ret se_bl)) ss_nil) (ss_cons (ss_set c.h c.nd 5 (.inl (c.fn _)) (se_lst (sa_cons (se_tup (sa_cons (se_glo c.h (glD_ref (g_parse_number g cc))) (sa_cons (se_glo c.h (glD_ref (g__law_read_number g cc))) (sa_cons (se_ix (se_var c.h 4) se_int) sa_nil)))) (sa_cons (se_tup (sa_cons (se_glo c.h (glD_ref (g_parse_row g cc))) (sa_cons (se_glo c.h (glD_ref (g__law_read_row g cc))) (sa_cons (se_ix (se_var c.h 4) se_int) sa_nil)))) sa_nil)))) (ss_cons (ss_for c.pas c.calm (si_any (se_bin opr_add (se_var c.h 5) (se_lst (sa_cons (se_tup (sa_cons (se_glo c.h (glD_ref (g_parse_telling g cc))) (sa_cons (se_glo c.h (glD_ref (g__law_read_telling g cc))) (sa_cons (se_ix (se_var c.h 4) se_int) sa_nil)))) sa_nil)))) (stg_tup c.calm (stgs_cons (stg_name c.h c.nd 10 (.inl (c.fn _))) (stgs_cons (stg_name c.h c.nd 11 (.inl (c.fn _))) (stgs_cons (stg_name c.h c.nd 12 (.inl (c.fn _))) stgs_nil)))) (ss_one (ss_for c.pas c.calm (si_range1 c.h (f_range g cc) (sa_cons se_int sa_nil)) (stg_name c.h c.nd 3 (.inl (c.fn _))) (ss_cons (ss_set c.h c.nd 13 (.inl (c.fn _)) (se_fn c.h h__law_bent (c.at_.mono (by decide)) c.tk (sa_cons (se_var c.h 0) (sa_cons (se_var c.h 12) sa_nil)))) (ss_one (ss_if (st_cmp (opr_ne c.at_.u64) (se_cb c.h (clr_repr c.at_.grd c.at_.u66) (f_repr g cc) bb_repr (sa_cons (se_fn c.h h__law_spot (c.at_.mono (by decide)) c.tk (sa_cons (se_var c.h 10) (sa_cons (se_var c.h 13) sa_nil))) sa_nil)) (se_cb c.h (clr_repr c.at_.grd c.at_.u66) (f_repr g cc) bb_repr (sa_cons (se_fn c.h h__law_due (c.at_.mono (by decide)) c.tk (sa_cons (se_var c.h 11) (sa_cons (se_var c.h 13) sa_nil))) sa_nil))) (ss_one (ss_ret se_bl)) ss_nil)))))) (ss_one (ss_ret se_bl)))))))))))
theorem okG_law (g : Gl2 K mg) (cc : CC K) (h__law_spot : FnT P w K mg base 8 "_law_spot" 2 M__law_spot) (h__law_due : FnT P w K mg base 5 "_law_due" 2 M__law_due) (h__law_dice : FnT P w K mg base 1 "_law_dice" 2 M__law_dice) (h__law_right : FnT P w K mg base 9 "_law_right" 1 M__law_right) {f : Addr} {fd : FuncData} (F : FunD K "law" "law" (defArgs (top 56)) (defBody (top 56)) (defScope (top 56)) [] [] f fd) : FnG P w K mg base 10 f fd ["script"] M_law := by
  refine fnG_ofD (st := top 56) (N := N_law) (ps := ["script"]) (fb := b_law) F ⟨rfl, rfl, rfl, by decide +kernel, rfl, by decide +kernel, by decide +kernel⟩ .pu ?_
  intro X bt W e1 e2 e3 e4 e5 c nx
  subst e1 e2 e3 e4 e5
  exact (ss_cons (ss_set c.h c.nd 1 (.inl (c.fn _)) (se_lstM (sa_cons se_str (sa_cons se_str (sa_cons se_str (sa_cons se_str (sa_cons se_str (sa_cons se_str (sa_cons se_str (sa_cons se_str (sa_cons se_str (sa_cons se_str (sa_cons se_str (sa_cons se_str (sa_cons se_str (sa_cons se_str (sa_cons se_str (sa_cons se_str sa_nil)))))))))))))))))) (ss_cons (ss_set c.h c.nd 1 (.inl (c.fn _)) (se_catM (se_var c.h 1) (se_lst (sa_cons se_str (sa_cons se_str (sa_cons se_str (sa_cons se_str (sa_cons se_str (sa_cons se_str (sa_cons se_str (sa_cons se_str (sa_cons se_str (sa_cons se_str sa_nil))))))))))))) (ss_cons (ss_expr (se_app (se_var c.h 1) (sa_cons se_str sa_nil))) (ss_cons (ss_set c.h c.nd 1 (.inl (c.fn _)) (se_bin opr_add (se_var c.h 1) (se_lst (sa_cons se_str (sa_cons se_str (sa_cons se_str (sa_cons se_str (sa_cons se_str (sa_cons se_str (sa_cons se_str (sa_cons se_str (sa_cons se_str sa_nil)))))))))))) (ss_cons (ss_set c.h c.nd 2 (.inl (c.fn _)) (se_lst (sa_cons (se_tup (sa_cons (se_glo c.h (glD_ref (g_parse_number g cc))) (sa_cons (se_glo c.h (glD_ref (g__law_read_number g cc))) sa_nil))) (sa_cons (se_tup (sa_cons (se_glo c.h (glD_ref (g_parse_row g cc))) (sa_cons (se_glo c.h (glD_ref (g__law_read_row g cc))) sa_nil))) (sa_cons (se_tup (sa_cons (se_glo c.h (glD_ref (g_parse_telling g cc))) (sa_cons (se_glo c.h (glD_ref (g__law_read_telling g cc))) sa_nil))) sa_nil))))) (ss_cons (ss_for c.pas c.calm (si_any (se_var c.h 2)) (stg_tup c.calm (stgs_cons (stg_name c.h c.nd 4 (.inl (c.fn _))) (stgs_cons (stg_name c.h c.nd 5 (.inl (c.fn _))) stgs_nil))) (ss_one (ss_for c.pas c.calm (si_any (se_var c.h 1)) (stg_name c.h c.nd 6 (.inl (c.fn _))) (ss_one (ss_if (st_cmp (opr_ne c.at_.u64) (se_cb c.h (clr_repr c.at_.grd c.at_.u66) (f_repr g cc) bb_repr (sa_cons (se_fn c.h h__law_spot (c.at_.mono (by decide)) c.tk (sa_cons (se_var c.h 4) (sa_cons (se_var c.h 6) sa_nil))) sa_nil)) (se_cb c.h (clr_repr c.at_.grd c.at_.u66) (f_repr g cc) bb_repr (sa_cons (se_fn c.h h__law_due (c.at_.mono (by decide)) c.tk (sa_cons (se_var c.h 5) (sa_cons (se_var c.h 6) sa_nil))) sa_nil))) (ss_one (ss_ret se_bl)) ss_nil))))) (ss_cons (ss_for c.pas c.calm (si_range1 c.h (f_range g cc) (sa_cons (se_cb c.h (clr_max c.calm) (f_max g cc) bb_max (sa_cons se_int (sa_cons (se_cb c.h (clr_min c.calm) (f_min g cc) bb_min (sa_cons se_int (sa_cons (se_cb c.h clr_len (f_len g cc) bb_len (sa_cons (se_var c.h 0) sa_nil)) sa_nil))) sa_nil))) sa_nil)) (stg_name c.h c.nd 3 (.inl (c.fn _))) (ss_cons (ss_set c.h c.nd 7 (.inl (c.fn _)) (se_fn c.h h__law_dice (c.at_.mono (by decide)) c.tk (sa_cons (se_var c.h 0) (sa_cons (se_var c.h 3) sa_nil)))) (ss_one (ss_for c.pas c.calm (si_range1 c.h (f_range g cc) (sa_cons se_int sa_nil)) (stg_name c.h c.nd 8 (.inl (c.fn _))) (ss_one (ss_if (st_not (st_val (se_fn c.h h__law_right (c.at_.mono (by decide)) c.tk (sa_cons (se_var c.h 7) sa_nil)))) (ss_one (ss_ret se_bl)) ss_nil)))))) (ss_one (ss_ret se_bl)))))))))
/-- all defs, one behind another -/
theorem all_ok (g : Gl2 K mg) (cc : CC K) (hP : P = PySem.Challenge.pw_amongliars_k81_whole_texts_of_numbers_ro) {f : Addr} {fd : FuncData} (F : FunD K "law" "law" (defArgs (top 56)) (defBody (top 56)) (defScope (top 56)) [] [] f fd) : FnG P w K mg base 10 f fd ["script"] M_law := by
  have h_is_integer : FnT P w K mg base 1 "is_integer" 1 M_is_integer := ok_is_integer g cc 
  have h_common_divisor : FnT P w K mg base 1 "common_divisor" 2 M_common_divisor := ok_common_divisor g cc 
  have h_is_number : FnT P w K mg base 2 "is_number" 1 M_is_number := ok_is_number g cc h_is_integer h_common_divisor
  have h_require_number : FnT P w K mg base 3 "require_number" 1 M_require_number := ok_require_number g cc h_is_number
  have h_is_plain_row : FnT P w K mg base 3 "is_plain_row" 2 M_is_plain_row := ok_is_plain_row g cc h_is_number
  have h_require_text : FnT P w K mg base 1 "require_text" 1 M_require_text := ok_require_text g cc 
  have h_require_sizes : FnT P w K mg base 1 "require_sizes" 1 M_require_sizes := ok_require_sizes g cc 
  have h_number_text : FnT P w K mg base 1 "number_text" 1 M_number_text := ok_number_text g cc 
  have h_row_text : FnT P w K mg base 2 "row_text" 1 M_row_text := ok_row_text g cc h_number_text
  have h_format_number : FnT P w K mg base 4 "format_number" 1 M_format_number := ok_format_number g cc h_require_number h_require_sizes h_number_text h_require_text
  have h_is_any_row : FnT P w K mg base 4 "is_any_row" 1 M_is_any_row := ok_is_any_row g cc h_is_plain_row
  have h_format_row : FnT P w K mg base 5 "format_row" 1 M_format_row := ok_format_row g cc h_is_any_row h_require_sizes h_row_text h_require_text
  have h_whole_in : FnT P w K mg base 1 "whole_in" 1 M_whole_in := ok_whole_in g cc 
  have h_number_in : FnT P w K mg base 3 "number_in" 1 M_number_in := ok_number_in g cc h_whole_in h_is_number h_number_text
  have h_row_in : FnT P w K mg base 4 "row_in" 1 M_row_in := ok_row_in g cc h_number_in
  have h_lines_of : FnT P w K mg base 1 "lines_of" 1 M_lines_of := ok_lines_of g cc 
  have h_telling_text : FnT P w K mg base 3 "telling_text" 1 M_telling_text := ok_telling_text g cc h_row_text
  have h_format_telling : FnT P w K mg base 5 "format_telling" 1 M_format_telling := ok_format_telling g cc h_is_any_row h_require_sizes h_telling_text h_require_text
  have h_telling_in : FnT P w K mg base 5 "telling_in" 1 M_telling_in := ok_telling_in g cc h_row_in
  have h__law_dice : FnT P w K mg base 1 "_law_dice" 2 M__law_dice := ok__law_dice g cc 
  have h__law_roll : FnT P w K mg base 1 "_law_roll" 2 M__law_roll := ok__law_roll g cc 
  have h__law_pick : FnT P w K mg base 2 "_law_pick" 2 M__law_pick := ok__law_pick g cc h__law_roll
  have h__law_fr : FnT P w K mg base 1 "_law_fr" 2 M__law_fr := ok__law_fr g cc 
  have h__law_number_text : FnT P w K mg base 1 "_law_number_text" 1 M__law_number_text := ok__law_number_text g cc 
  have h__law_row_text : FnT P w K mg base 2 "_law_row_text" 1 M__law_row_text := ok__law_row_text g cc h__law_number_text
  have h__law_telling_text : FnT P w K mg base 3 "_law_telling_text" 1 M__law_telling_text := ok__law_telling_text g cc h__law_row_text
  have h__law_read_whole : FnT P w K mg base 1 "_law_read_whole" 1 M__law_read_whole := ok__law_read_whole g cc 
  have h__law_read_number : FnT P w K mg base 2 "_law_read_number" 1 M__law_read_number := ok__law_read_number g cc h__law_read_whole h__law_fr h__law_number_text
  have h__law_read_row : FnT P w K mg base 3 "_law_read_row" 1 M__law_read_row := ok__law_read_row g cc h__law_read_number
  have h__law_read_telling : FnT P w K mg base 4 "_law_read_telling" 1 M__law_read_telling := ok__law_read_telling g cc h__law_read_row
  have h_one_line : FnT P w K mg base 6 "one_line" 2 M_one_line := ok_one_line g cc hP h_lines_of h_number_in h_row_in h_telling_in
  have h_parse_number : FnT P w K mg base 7 "parse_number" 1 M_parse_number := ok_parse_number g cc h_one_line
  have h_parse_row : FnT P w K mg base 7 "parse_row" 1 M_parse_row := ok_parse_row g cc h_one_line
  have h_parse_telling : FnT P w K mg base 7 "parse_telling" 1 M_parse_telling := ok_parse_telling g cc h_one_line
  have h__law_spot : FnT P w K mg base 8 "_law_spot" 2 M__law_spot := ok__law_spot g cc h_parse_number h_parse_row h_parse_telling
  have h__law_bent : FnT P w K mg base 3 "_law_bent" 2 M__law_bent := ok__law_bent g cc h__law_roll h__law_pick
  have h__law_due : FnT P w K mg base 5 "_law_due" 2 M__law_due := ok__law_due g cc h__law_read_number h__law_read_row h__law_read_telling
  have h__law_right : FnT P w K mg base 9 "_law_right" 1 M__law_right := ok__law_right g cc h__law_roll h__law_pick h__law_fr h_format_telling h_format_row h_format_number h__law_telling_text h__law_row_text h__law_number_text h_parse_telling h_parse_row h_parse_number h__law_bent h__law_spot h__law_due
  exact okG_law g cc h__law_spot h__law_due h__law_dice h__law_right F
def lawIx : Nat := 38
def lawK : Nat := 10
end
end L81
set_option Elab.async false
set_option linter.all false
set_option maxRecDepth 100000
set_option maxHeartbeats 1000000
namespace L81
open PySem PySem.Spec PyProof.Rows L2 Sm TL

/-! ## the mirrors' steps -/
theorem bind_ok {α β : Type} (a : α) (s : Sto) (f : α → Sto → Out β) : (Out.ok a s).bind f = f a s := rfl
theorem then_ok {α : Type} (a : α) (s : Sto) (en : En) (f : α → Sto → SO) : (Out.ok a s).then en f = f a s := rfl
theorem then_nx (en : En) (s : Sto) (f : MS) : (SO.nx en s).then f = f en s := rfl
theorem then_rt (v : Vl) (s : Sto) (f : MS) : (SO.rt v s).then f = .rt v s := rfl
/-- a def with a store of its own -/
theorem pu_rt {n : Nat} {b : MS} {as : List Vl} {ds : List D} {d : D} {S0 S' : Sto} {v : Vl} (ha : frz as = some ds) (h : b (enAt n (ds.map .d)) [] = .rt v S') (hf : frzV S' v = some d) : puF (puR n b) as S0 = .ok (.d d) S0 := by
  unfold puF
  rw [ha]
  show (Res.of (retOf (b (enAt n (ds.map .d)) []))).out S0 = _
  rw [h]
  show (match frzV S' v with | some d => Res.ok d | none => Res.bad).out S0 = _
  rw [hf]
  rfl
theorem frz_d (ds : List D) : frz (ds.map .d) = some ds := by
  induction ds with
  | nil => rfl
  | cons d ds ih => 
    show (match frz (ds.map .d) with | some l => some (d :: l) | none => none) = _
    rw [ih]
/-- a walk over values -/
theorem lcGo_filt {ι : Type} {g : GT} {ft : MT} {fe : ME} {en : En} (f h : ι → D) (t : ι → Bool) : ∀ (l : List ι) (acc : List D) (S : Sto), (∀ x ∈ l, ∃ en1, g (.d (f x)) S en = some en1 ∧ ft en1 S = .ok (t x) S ∧ fe en1 S = .ok (.d (h x)) S) → acc.length + l.length ≤ sizeLine →
    lcGo g ft fe en (l.map f) acc S = .ok (acc ++ (l.filter t).map h) S
  | [], acc, S, _, _ => by
    show _ = Out.ok (acc ++ []) S
    rw [List.append_nil]
    rfl
  | x :: l, acc, S, hd, hl => by
    obtain ⟨en1, h1, h2, h3⟩ := hd x (List.mem_cons_self ..)
    have hlt : acc.length < sizeLine := by simp only [List.length_cons] at hl; omega
    rw [List.map_cons]
    unfold lcGo
    cases q : t x with
    | true =>
      rw [q] at h2
      simp only [h1, h2, h3, if_pos hlt]
      rw [List.filter_cons_of_pos q]
      have ih := lcGo_filt (g := g) (ft := ft) (fe := fe) (en := en) f h t l (acc ++ [h x]) S (fun x hx => hd x (List.mem_cons_of_mem _ hx)) (by simp only [List.length_append, List.length_cons, List.length_nil] at hl ⊢; omega)
      rw [List.append_assoc] at ih
      exact ih
    | false =>
      rw [q] at h2
      simp only [h1, h2, h3]
      rw [List.filter_cons_of_neg (by rw [q]; exact Bool.false_ne_true)]
      exact lcGo_filt (g := g) (ft := ft) (fe := fe) (en := en) f h t l acc S (fun x hx => hd x (List.mem_cons_of_mem _ hx)) (by simp only [List.length_cons] at hl; omega)
theorem filter_yes {ι : Type} (l : List ι) : l.filter (fun _ => true) = l := List.filter_eq_self.mpr fun _ _ => rfl
theorem lcGo_map {ι : Type} {g : GT} {fe : ME} {en : En} (f h : ι → D) (l : List ι) (S : Sto) (hd : ∀ x ∈ l, ∃ en1, g (.d (f x)) S en = some en1 ∧ fe en1 S = .ok (.d (h x)) S) (hl : l.length ≤ sizeLine) :
    lcGo g eYes fe en (l.map f) [] S = .ok (l.map h) S := by
  have e := lcGo_filt (g := g) (ft := eYes) (fe := fe) (en := en) f h (fun _ => true) l [] S (fun x hx => by
    obtain ⟨en1, h1, h2⟩ := hd x hx
    exact ⟨en1, h1, rfl, h2⟩) (by rw [List.length_nil]; omega)
  rw [filter_yes, List.nil_append] at e
  exact e
theorem is_integer_int (i : Int) (S : Sto) : M_is_integer [.d (.int i)] S = .ok (.d (.bl true)) S := by
  refine pu_rt (ds := [.int i]) (v := .d (.bl true)) (S' := []) rfl ?_ rfl
  rfl

theorem seq_rt {f g : MS} {en : En} {s s1 : Sto} {v : Vl} (h : f en s = .rt v s1) : sSeq f g en s = .rt v s1 := by
  unfold sSeq; rw [h]; rfl
theorem seq_nx {f g : MS} {en en1 : En} {s s1 : Sto} (h : f en s = .nx en1 s1) : sSeq f g en s = g en1 s1 := by
  unfold sSeq; rw [h]; rfl
/-- Euclid's loop -/
def eucT : MT := eTst (eBin (gIb fun i j => decide (j < i)) (eVar 1) (eC (.int 0)))
theorem euc {t : MT} {body : MS} (mk : Int → Int → En)
    (ht : ∀ a b S, t (mk a b) S = .ok (decide (0 < b)) S)
    (hb : ∀ a b S, 0 < b → body (mk a b) S = .nx (mk b (a % b)) S) : ∀ (f : Nat) (a b : Int) (S : Sto), 0 ≤ a → 0 ≤ b → b.natAbs < f → whGo t body f (mk a b) S = .nx (mk (Int.gcd a b) 0) S
  | 0, _, _, _, _, _, h => absurd h (Nat.not_lt_zero _)
  | f + 1, a, b, S, ha, hb0, h => by
    unfold whGo
    rw [ht]
    by_cases hz : 0 < b
    · have hm : 0 ≤ a % b := Int.emod_nonneg _ (by omega)
      have hl : a % b < b := Int.emod_lt_of_pos _ hz
      have e : Int.gcd b (a % b) = Int.gcd a b := by
        obtain ⟨m, rfl⟩ := Int.eq_ofNat_of_zero_le ha
        obtain ⟨n, rfl⟩ := Int.eq_ofNat_of_zero_le hb0
        show Nat.gcd n ((m : Int) % (n : Int)).natAbs = Nat.gcd m n
        rw [← Int.natCast_emod]
        show Nat.gcd n (m % n) = Nat.gcd m n
        rw [Nat.gcd_comm m n, Nat.gcd_comm n (m % n)]
        exact (Nat.gcd_rec n m).symm
      show (if (decide (0 < b)) = true then _ else _) = _
      rw [decide_eq_true hz, if_pos rfl, hb a b S hz]
      show whGo t body f (mk b (a % b)) S = _
      rw [euc mk ht hb f b (a % b) S (by omega) hm (by omega), e]
    · have : b = 0 := by omega
      subst this
      show SO.nx (mk a 0) S = _
      rw [Int.gcd_zero_right]
      rw [Int.natAbs_of_nonneg ha]
theorem abs_if (a : Int) : (if a < 0 then -a else a) = (a.natAbs : Int) := by split <;> omega
theorem common_divisor (a b : Int) (S : Sto) : M_common_divisor [.d (.int a), .d (.int b)] S = .ok (.d (.int (Int.gcd a b))) S := by
  refine pu_rt (ds := [.int a, .int b]) (v := .d (.int (Int.gcd a b))) (S' := []) rfl ?_ rfl
  have e := euc (t := eTst (eBin (gIb fun i j => decide (j < i)) (eVar 1) (eC (.int 0)))) (body := sPar2 0 1 (aCons (eVar 1) (aCons (eBin modV (eVar 0) (eVar 1)) aNil)))
    (fun x y => [some (.d (.int x)), some (.d (.int y))]) (fun a b S => rfl) (fun a b S hb => by
      show sPar2 0 1 _ _ _ = _
      unfold sPar2 aCons eVar eBin modV gI
      simp only [sSeq, sNx, sBk, sCt, sDrop, sRet, sRetN, sIf, sSet, sAsg, sPar2, sPar3, sSub, eVar, eC, eBin, eTst, eUn, eNot, eAnd, eOr, eBl, eAndV, eOrV, eNotV, eIf, vB, aNil, aCons, eTup, eLst, eLstM, oNone, oSome, eSl, eCB, eFn, eM1, isS, iV, iR, walkV, walkD, bind_ok, then_ok, then_nx, then_rt, ofO, List.getElem?_cons_zero, List.getElem?_cons_succ, List.set_cons_zero, List.set_cons_succ, List.map_cons, List.map_nil, List.length_cons, List.length_nil, List.append_nil, List.cons_append, List.nil_append, frz, noXc, Bool.not_true, Bool.not_false, if_true, if_false, ite_true, ite_false, decide_true, decide_false, gor, gI, gIb, gS, asSeq, asLst, absV', maxV, minV, tyN, divV, modV, mulV, addV, subV, addSV, addTV, addLV, mulLV, negV, Nat.reduceAdd, Nat.reduceSub, reduceIte, Bool.false_eq_true, and_self, and_true, true_and, reduceCtorEq, hb, gI, decide_eq_true]) (b.natAbs + 1) a.natAbs b.natAbs [] (by omega) (by omega) (by omega)
  unfold b_common_divisor
  rw [seq_nx (en1 := [some (.d (.int a.natAbs)), some (.d (.int b.natAbs))]) (s1 := [])]
  · rw [seq_nx (en1 := [some (.d (.int (Int.gcd a.natAbs b.natAbs))), some (.d (.int 0))]) (s1 := [])]
    · show SO.rt _ _ = _
      rw [show Int.gcd (a.natAbs : Int) (b.natAbs : Int) = Int.gcd a b from by unfold Int.gcd; simp]
    · exact e
  · show SO.nx [some (.d (.int (if a < 0 then -a else a))), some (.d (.int (if b < 0 then -b else b)))] [] = _
    rw [abs_if, abs_if]
/-! ## numbers and their texts -/
def intL (i : Int) : List Nat := if i < 0 then 45 :: numL i.natAbs else numL i.natAbs
abbrev intS (i : Int) : Str := Str.ofString (toString i)
theorem tl_int : ∀ i : Int, tl (intS i) = intL i
  | .ofNat n => by
    show _ = if (n : Int) < 0 then _ else _
    rw [if_neg (by omega)]
    exact tl_num n
  | .negSucc m => by
    have h : (Int.negSucc m) < 0 := Int.negSucc_lt_zero m
    unfold intL
    rw [if_pos h]
    have e : (toString (Int.negSucc m) : String) = "-" ++ toString ((m + 1 : Nat) : Int) := rfl
    show tl (Str.ofString (toString (Int.negSucc m))) = _
    rw [e, tl_ofString, String.toList_append, List.map_append, ← tl_ofString (toString ((m + 1 : Nat) : Int)), tl_num]
    rfl
def numT (a b : Int) : Str := if b = 1 then intS a else intS a ++ Str.ofString "/" ++ intS b
def numTL (a b : Int) : List Nat := intL a ++ if b = 1 then [] else 47 :: intL b
theorem tl_numT (a b : Int) : tl (numT a b) = numTL a b := by
  unfold numT numTL
  split
  · rw [tl_int, List.append_nil]
  · rw [tl_append, tl_append, tl_int, tl_int, List.append_assoc]
    rfl
/-- small enough -/
def Sl (i : Int) : Prop := i.natAbs < 10 ^ 300
theorem log_lt {n k : Nat} (hk : k ≠ 0) (h : n < 2 ^ k) : n.log2 < k := by
  by_cases z : n = 0
  · subst z
    rw [Nat.log2_zero]
    omega
  · exact (Nat.log2_lt z).mpr h
theorem Sl.log {i : Int} (h : Sl i) : i.natAbs.log2 < 1000 := log_lt (by decide) (Nat.lt_of_lt_of_le h (by decide))
theorem Sl.len {i : Int} (h : Sl i) : (intL i).length ≤ 301 := by
  have := numL_len (n := i.natAbs) (k := 300) (by decide) h
  unfold intL
  split
  · rw [List.length_cons]; omega
  · omega
theorem Sl.lenS {i : Int} (h : Sl i) : (intS i).length ≤ 301 := by rw [len_tl, tl_int]; exact h.len
theorem eqV_int (n : Bool) (S : Sto) (i j : Int) : eqV n S (.d (.int i)) (.d (.int j)) = some (.d (.bl (n ^^ decide (i = j)))) := rfl
theorem strV_int {S : Sto} {i : Int} (h : Sl i) : strV S [.d (.int i)] = some (.d (.str (intS i))) := if_pos (by have := h.log; omega)
theorem empty_app (x : Str) : Str.empty ++ x = x := ext_tl (by rw [tl_append]; rfl)
theorem ixT0 (S : Sto) (x y : D) : ixV S (.d (.tup [x, y])) (.d (.int 0)) = some (.d x) := rfl
theorem ixT1 (S : Sto) (x y : D) : ixV S (.d (.tup [x, y])) (.d (.int 1)) = some (.d y) := rfl
abbrev nD (a b : Int) : D := .tup [.int a, .int b]
theorem fmtV_int {i : Int} (h : Sl i) : fmtV (.d (.int i)) = some (intS i) := if_pos (by have := h.log; omega)
theorem len_app (x y : Str) : (x ++ y).length = x.length + y.length := by rw [len_tl, len_tl, len_tl, tl_append, List.length_append]
theorem slash1 : (Str.ofString "/").length = 1 := by decide
theorem number_text {a b : Int} (ha : Sl a) (hb : Sl b) (S : Sto) : M_number_text [.d (nD a b)] S = .ok (.d (.str (numT a b))) S := by
  refine pu_rt (ds := [nD a b]) (v := .d (.str (numT a b))) (S' := []) rfl ?_ rfl
  show b_number_text [some (.d (nD a b))] [] = _
  unfold b_number_text
  have la := ha.lenS
  have lb := hb.lenS
  simp only [sSeq, sNx, sBk, sCt, sDrop, sRet, sRetN, sIf, sSet, sAsg, sPar2, sPar3, sSub, eVar, eC, eBin, eTst, eUn, eNot, eAnd, eOr, eBl, eAndV, eOrV, eNotV, eIf, vB, aNil, aCons, eTup, eLst, eLstM, oNone, oSome, eSl, eCB, eFn, eM1, isS, iV, iR, walkV, walkD, bind_ok, then_ok, then_nx, then_rt, ofO, List.getElem?_cons_zero, List.getElem?_cons_succ, List.set_cons_zero, List.set_cons_succ, List.map_cons, List.map_nil, List.length_cons, List.length_nil, List.append_nil, List.cons_append, List.nil_append, frz, noXc, Bool.not_true, Bool.not_false, if_true, if_false, ite_true, ite_false, decide_true, decide_false, gor, gI, gIb, gS, asSeq, asLst, absV', maxV, minV, tyN, divV, modV, mulV, addV, subV, addSV, addTV, addLV, mulLV, negV, Nat.reduceAdd, Nat.reduceSub, reduceIte, Bool.false_eq_true, and_self, and_true, true_and, reduceCtorEq, ixT0, ixT1, eqV_int, Bool.false_bne, strV_int ha, eJs, jsGo, eFmt, fmtV_int ha, fmtV_int hb, empty_app, len_app, slash1]
  unfold numT
  by_cases h : b = 1
  · simp only [h, decide_true, if_true, then_ok]
  · have z : sizeLine = 16777216 := rfl
    simp only [h, decide_false, if_false, Bool.bne_false, Bool.false_xor, Bool.false_eq_true]
    rw [if_pos (by omega), if_pos (by omega), if_pos (by omega)]
    rfl
theorem law_number_text {a b : Int} (ha : Sl a) (hb : Sl b) (S : Sto) : M__law_number_text [.d (nD a b)] S = .ok (.d (.str (numT a b))) S := by
  refine pu_rt (ds := [nD a b]) (v := .d (.str (numT a b))) (S' := []) rfl ?_ rfl
  show b__law_number_text [some (.d (nD a b))] [] = _
  unfold b__law_number_text
  have la := ha.lenS
  have lb := hb.lenS
  have z : sizeLine = 16777216 := rfl
  have e1 : addV [] (.d (.str (intS a))) (.d (.str (Str.ofString "/"))) = some (.d (.str (intS a ++ Str.ofString "/"))) := by
    show (match addSV [] (.d (.str (intS a))) (.d (.str (Str.ofString "/"))) with | some r => some r | none => _) = _
    unfold addSV gS
    simp only [slash1]
    rw [if_pos (decide_eq_true (by omega))]
  have e2 : addV [] (.d (.str (intS a ++ Str.ofString "/"))) (.d (.str (intS b))) = some (.d (.str (intS a ++ Str.ofString "/" ++ intS b))) := by
    show (match addSV [] (.d (.str (intS a ++ Str.ofString "/"))) (.d (.str (intS b))) with | some r => some r | none => _) = _
    unfold addSV gS
    simp only [len_app, slash1]
    rw [if_pos (decide_eq_true (by omega))]
  simp only [sRet, eIf, eTst, eBin, eVar, eC, eCB, aCons, aNil, vB, bind_ok, then_ok, ofO, ixT0, ixT1, eqV_int, strV_int ha, strV_int hb, List.getElem?_cons_zero, e1, e2]
  unfold numT
  by_cases h : b = 1
  · simp only [h, decide_true, if_true, then_ok, Bool.false_xor]
  · simp only [h, decide_false, if_false, Bool.false_xor, Bool.false_eq_true, then_ok]
/-- numbers -/
def Vd (a b : Int) : Prop := 1 ≤ b ∧ Int.gcd a b = 1
instance (a b : Int) : Decidable (Vd a b) := by unfold Vd; infer_instance
theorem is_number (a b : Int) (S : Sto) : M_is_number [.d (nD a b)] S = .ok (.d (.bl (decide (Vd a b)))) S := by
  refine pu_rt (ds := [nD a b]) (v := .d (.bl (decide (Vd a b)))) (S' := []) rfl ?_ rfl
  have lc : lcGo (gtName 1) eYes (eFn 1 M_is_integer (aCons (eVar 1) aNil)) [some (.d (nD a b)), none] [.int a, .int b] [] [] = .ok [.bl true, .bl true] [] := rfl
  have e1 : (sIf (eOr (eNot (eTst (eCB isiB (aCons (eVar 0) (aCons (eC (.bty "tuple")) aNil))))) (eOr (eTst (eBin (eqV true) (eCB lenV (aCons (eVar 0) aNil)) (eC (.int 2)))) (eNot (eTst (eCB (anyV false) (aCons (eLc [1] (iV (eVar 0)) (gtName 1) eYes (eFn 1 M_is_integer (aCons (eVar 1) aNil))) aNil)))))) (sRet (eC (.bl false))) sNx) [some (.d (nD a b)), none] [] = .nx [some (.d (nD a b)), none] [] := rfl
  show b_is_number [some (.d (nD a b)), none] [] = _
  unfold b_is_number
  rw [seq_nx e1]
  simp only [sRet, eAndV, eTst, eBin, eVar, eC, eFn, aCons, aNil, vB, bind_ok, then_ok, ofO, ixT0, ixT1, gIb, List.getElem?_cons_zero, List.length_cons, List.length_nil, noXc, and_self, if_true, common_divisor, eqV_int, Nat.reduceAdd]
  by_cases h : 1 ≤ b
  · simp only [h, decide_true, if_true, Bool.false_xor, bind_ok, then_ok, Vd, true_and]
    have : decide ((Int.gcd a b : Int) = 1) = decide (Int.gcd a b = 1) := decide_eq_decide.mpr (by omega)
    rw [this]
  · simp only [h, decide_false, if_false, Bool.false_eq_true, then_ok, Vd, false_and]
end L81
set_option Elab.async false
set_option linter.all false
set_option maxRecDepth 100000
set_option maxHeartbeats 1000000
namespace L81
open PySem PySem.Spec PyProof.Rows L2 Sm TL

/-! ## texts -/
abbrev mkS (l : List Nat) : Str := ⟨l.toArray⟩
theorem mk_tl' (x : Str) : mkS (tl x) = x := mk_tl x
theorem mkS_inj {l m : List Nat} : mkS l = mkS m ↔ l = m := ⟨fun h => congrArg tl h, fun h => by rw [h]⟩
theorem numT_mk (a b : Int) : numT a b = mkS (numTL a b) := by rw [← tl_numT, mk_tl']
theorem intS_mk (a : Int) : intS a = mkS (intL a) := by rw [← tl_int, mk_tl']
theorem len_mk (l : List Nat) : (mkS l).length = l.length := by rw [len_tl]
structure Tx (l : List Nat) : Prop where
  lt : ∀ c ∈ l, c < 256
  len : l.length ≤ 4000
  run : ∀ u, u <:+: l → NumText.AllDigits u → u.length ≤ 300
theorem Tx.sub {l p : List Nat} (h : Tx l) (s : p <:+: l) : Tx p := ⟨fun c hc => h.lt c (s.subset hc), Nat.le_trans s.length_le h.len, fun u hu d => h.run u (hu.trans s) d⟩
theorem okS {l : List Nat} (h : ∀ c ∈ l, c < 256) : PyData.canLay0 (.str (mkS l)) = true := by
  show (mkS l).cps.all (· < 0x110000) = true
  rw [Array.all_eq_true']
  intro c hc
  have := h c (Array.mem_def.mp hc)
  exact decide_eq_true (by omega)
theorem shp_str {l : List Nat} (h : ∀ c ∈ l, c < 256) : SeqAt.shaped (.str (mkS l)) = true := by
  unfold SeqAt.shaped
  rw [okS h]
  rfl
theorem eqV_str {l m : List Nat} (n : Bool) (S : Sto) (h : ∀ c ∈ l, c < 256) (hm : ∀ c ∈ m, c < 256) : eqV n S (.d (.str (mkS l))) (.d (.str (mkS m))) = some (.d (.bl (n ^^ decide (l = m)))) := by
  show (if SeqAt.shaped (.str (mkS l)) = true ∧ SeqAt.shaped (.str (mkS m)) = true then some (Vl.d (.bl (n ^^ PyData.eqv (.str (mkS l)) (.str (mkS m))))) else none) = _
  rw [if_pos ⟨shp_str h, shp_str hm⟩]
  have : PyData.eqv (.str (mkS l)) (.str (mkS m)) = decide (l = m) := by
    show (mkS l == mkS m) = _
    rw [Bool.eq_iff_iff, beq_iff_eq, mkS_inj, decide_eq_true_eq]
  rw [this]
theorem lit (s : String) (l : List Nat) (h : s.toList.map Char.toNat = l) : Str.ofString s = mkS l := by rw [← h, ← tl_ofString, mk_tl']
theorem l_e : Str.ofString "" = mkS [] := lit _ _ rfl
theorem l_0 : Str.ofString "0" = mkS [48] := lit _ _ rfl
theorem l_mi : Str.ofString "-" = mkS [45] := lit _ _ rfl
theorem l_sl : Str.ofString "/" = mkS [47] := lit _ _ rfl
theorem l_sp : Str.ofString " " = mkS [32] := lit _ _ rfl
theorem l_co : Str.ofString ", " = mkS [44, 32] := lit _ _ rfl
theorem l_nl : Str.ofString "\n" = mkS [10] := lit _ _ rfl
theorem l_no : Str.ofString "none" = mkS [110, 111, 110, 101] := lit _ _ rfl
theorem l_dg : Str.ofString "0123456789" = mkS [48, 49, 50, 51, 52, 53, 54, 55, 56, 57] := lit _ _ rfl
def dig (c : Nat) : Bool := decide (48 ≤ c ∧ c ≤ 57)
theorem inV_dig (n : Bool) (S : Sto) (c : Nat) : inV n S (.d (.str ⟨#[c]⟩)) (.d (.str (Str.ofString "0123456789"))) = some (.d (.bl (n ^^ dig c))) := by
  rw [l_dg]
  show some (Vl.d (.bl (n ^^ decide (c ∈ [48, 49, 50, 51, 52, 53, 54, 55, 56, 57])))) = _
  have : decide (c ∈ [48, 49, 50, 51, 52, 53, 54, 55, 56, 57]) = dig c := decide_eq_decide.mpr (by simp only [List.mem_cons, List.not_mem_nil, or_false]; omega)
  rw [this]
theorem digs_iff {l : List Nat} : NumText.AllDigits l ↔ l.all dig = true := by
  rw [List.all_eq_true]
  exact ⟨fun h c hc => decide_eq_true (h c hc), fun h c hc => of_decide_eq_true (h c hc)⟩
theorem cut_to (l : List Nat) (j : Nat) : cutS (mkS l) none (some (j : Int)) = mkS (l.take j) := by
  unfold cutS
  rw [HT.sIx_none, HT.sIx_nat, len_mk]
  show mkS ((l.drop 0).take (min j l.length - 0)) = _
  rw [List.drop_zero, Nat.sub_zero]
  congr 1
  by_cases h : j ≤ l.length
  · rw [Nat.min_eq_left h]
  · have e : min j l.length = l.length := by omega
    rw [e, List.take_of_length_le (Nat.le_refl _), List.take_of_length_le (by omega)]
theorem cut_from (l : List Nat) (i : Nat) : cutS (mkS l) (some (i : Int)) none = mkS (l.drop i) := by
  unfold cutS
  rw [HT.sIx_none, HT.sIx_nat, len_mk]
  show mkS ((l.drop (min i l.length)).take (l.length - min i l.length)) = _
  congr 1
  by_cases h : i ≤ l.length
  · rw [Nat.min_eq_left h, List.take_of_length_le (by rw [List.length_drop]; omega)]
  · rw [Nat.min_eq_right (by omega), List.drop_of_length_le (Nat.le_refl _), List.drop_of_length_le (by omega), List.take_nil]
theorem cut_mid (l : List Nat) (i j : Nat) : cutS (mkS l) (some (i : Int)) (some (j : Int)) = mkS ((l.drop i).take (j - i)) := by
  unfold cutS
  rw [HT.sIx_nat, HT.sIx_nat, len_mk]
  show mkS ((l.drop (min i l.length)).take (min j l.length - min i l.length)) = _
  congr 1
  by_cases h : i ≤ l.length
  · rw [Nat.min_eq_left h]
    by_cases h2 : j ≤ l.length
    · rw [Nat.min_eq_left h2]
    · rw [Nat.min_eq_right (by omega), List.take_of_length_le (by rw [List.length_drop]; omega), List.take_of_length_le (by rw [List.length_drop]; omega)]
  · have e : min i l.length = l.length := by omega
    rw [e, List.drop_of_length_le (Nat.le_refl _), List.drop_of_length_le (by omega), List.take_nil, List.take_nil]
theorem spl_inf (P : List Nat) : ∀ (l : List Nat) (k : Nat) (acc p : List Nat), k = 0 ∨ acc = [] → p ∈ spl P k acc l → p <:+: acc ++ l
  | [], k, acc, p, _, h => by
    rw [spl_nil, List.mem_singleton] at h
    rw [h, List.append_nil]
    exact List.infix_refl _
  | c :: r, 0, acc, p, _, h => by
    cases q : pre P (c :: r) with
    | true =>
      rw [spl_hit q] at h
      rcases List.mem_cons.mp h with h | h
      · rw [h]
        exact (List.prefix_append _ _).isInfix
      · have := spl_inf P r _ [] p (.inr rfl) h
        rw [List.nil_append] at this
        exact this.trans (List.IsSuffix.isInfix ⟨acc ++ [c], by rw [List.append_assoc]; rfl⟩)
    | false =>
      rw [spl_miss q] at h
      have := spl_inf P r 0 (acc ++ [c]) p (.inl rfl) h
      rw [List.append_assoc] at this
      exact this
  | c :: r, k + 1, acc, p, e, h => by
    have e : acc = [] := by rcases e with e | e; exact absurd e (by omega); exact e
    subst e
    have h : p ∈ spl P k [] r := h
    have := spl_inf P r k [] p (.inr rfl) h
    rw [List.nil_append] at this ⊢
    exact this.trans (List.suffix_cons c r).isInfix
abbrev cutL (P l : List Nat) : List (List Nat) := spl P 0 [] l
theorem cutL_inf {P l p : List Nat} (h : p ∈ cutL P l) : p <:+: l := by
  have := spl_inf P l 0 [] p (.inl rfl) h
  rwa [List.nil_append] at this
theorem spl_ne (P : List Nat) : ∀ (l : List Nat) (k : Nat) (acc : List Nat), spl P k acc l ≠ []
  | [], k, acc => by rw [spl_nil]; exact List.cons_ne_nil _ _
  | c :: r, 0, acc => by
    cases q : pre P (c :: r) with
    | true => rw [spl_hit q]; exact List.cons_ne_nil _ _
    | false => rw [spl_miss q]; exact spl_ne P r 0 _
  | c :: r, k + 1, acc => spl_ne P r k acc
theorem split_mk {P : List Nat} (l : List Nat) (hP : P ≠ []) (hk : P.all (· < 256) = true) : Txt.split (mkS l) (mkS P) = (cutL P l).map mkS := by
  apply map_tl_inj
  rw [split_spl _ _ hP (kind_ok (by simpa using hk)), List.map_map]
  show _ = (cutL P l).map (fun x => x)
  rw [List.map_id']
theorem splitV_mk {P l : List Nat} (S : Sto) (hP : P ≠ []) (hk : P.all (· < 256) = true) (hl : l.length ≤ 4000) : splitV S (.d (.str (mkS l))) (.d (.str (mkS P))) = some (.d (.lst ((cutL P l).map fun q => .str (mkS q)))) := by
  unfold splitV
  have z : sizeLine = 16777216 := rfl
  have h1 : ((mkS P).length == 0) = false := by
    rw [len_mk]
    cases P with
    | nil => exact absurd rfl hP
    | cons c r => rfl
  simp only []
  rw [if_pos ⟨h1, by rw [len_mk]; omega⟩, split_mk l hP hk, List.map_map]
  rfl
theorem cut_len (P : List Nat) : ∀ (l : List Nat) (k : Nat) (acc : List Nat), (spl P k acc l).length ≤ l.length + 1
  | [], k, acc => by rw [spl_nil]; exact Nat.le_refl _
  | c :: r, 0, acc => by
    cases q : pre P (c :: r) with
    | true => rw [spl_hit q]; have := cut_len P r (P.length - 1) []; simp only [List.length_cons]; omega
    | false => rw [spl_miss q]; have := cut_len P r 0 (acc ++ [c]); simp only [List.length_cons]; omega
  | c :: r, k + 1, acc => by
    have : (spl P k acc r).length ≤ r.length + 1 := cut_len P r k acc
    show (spl P k acc r).length ≤ _
    simp only [List.length_cons]; omega
theorem val_lt : ∀ (l : List Nat) (a : Nat), NumText.AllDigits l → l.foldl (fun acc c => acc * 10 + (c - 48)) a < (a + 1) * 10 ^ l.length
  | [], a, _ => by simp
  | c :: r, a, h => by
    have hc := h.head
    have ih := val_lt r (a * 10 + (c - 48)) h.tail
    rw [List.foldl_cons, List.length_cons, Nat.pow_succ]
    refine Nat.lt_of_lt_of_le ih ?_
    have : a * 10 + (c - 48) + 1 ≤ (a + 1) * 10 := by omega
    calc (a * 10 + (c - 48) + 1) * 10 ^ r.length ≤ ((a + 1) * 10) * 10 ^ r.length := Nat.mul_le_mul_right _ this
      _ = (a + 1) * (10 ^ r.length * 10) := by rw [Nat.mul_assoc, Nat.mul_comm 10]
theorem dval_lt {l : List Nat} (h : NumText.AllDigits l) : NumText.digitsVal l < 10 ^ l.length := by
  have := val_lt l 0 h
  rw [Nat.zero_add, Nat.one_mul] at this
  exact this
theorem Tx.dval {l : List Nat} (t : Tx l) (h : NumText.AllDigits l) : Sl (NumText.digitsVal l : Int) := by
  have := t.run l (List.infix_refl _) h
  exact Nat.lt_of_lt_of_le (dval_lt h) (Nat.pow_le_pow_right (by decide) this)
theorem Sl.neg {i : Int} (h : Sl i) : Sl (-i) := by
  unfold Sl
  rw [Int.natAbs_neg]
  exact h
end L81
set_option Elab.async false
set_option linter.all false
set_option maxRecDepth 100000
set_option maxHeartbeats 1000000
namespace L81
open PySem PySem.Spec PyProof.Rows L2 Sm TL

/-! ## whole numbers -/
def oI : Option Int → D
  | none => .non
  | some i => .int i
def wholeV (l : List Nat) : Option Int := if l = [] ∨ ¬ l.all dig = true ∨ (l.take 1 = [48] ∧ l ≠ [48]) then none else some (NumText.digitsVal l)
theorem wholeV_val {l : List Nat} {i : Int} (h : wholeV l = some i) : NumText.AllDigits l ∧ i = NumText.digitsVal l := by
  unfold wholeV at h
  split at h
  · cases h
  · rename_i h2
    cases h
    refine ⟨digs_iff.mpr ?_, rfl⟩
    exact Classical.byContradiction fun z => h2 (.inr (.inl z))
theorem num_head (n : Nat) : (numL n).take 1 = [48] → n = 0 := by
  induction n using Nat.strongRecOn with
  | _ n ih =>
    intro h
    by_cases q : n < 10
    · rw [numL_lt q] at h
      have : 48 + n = 48 := by
        have e : [48 + n] = [48] := h
        injection e
      omega
    · rw [numL_step (by omega)] at h
      have ne := numL_ne (n / 10)
      have : (numL (n / 10)).take 1 = [48] := by
        cases e : numL (n / 10) with
        | nil => exact absurd e ne
        | cons c r => rw [e] at h; exact h
      have := ih (n / 10) (by omega) this
      omega
theorem wholeV_num (n : Nat) : wholeV (numL n) = some (n : Int) := by
  unfold wholeV
  rw [if_neg, numL_val]
  rintro (h | h | ⟨h1, h2⟩)
  · exact numL_ne n h
  · exact h (digs_iff.mp (numL_digits n))
  · have := num_head n h1
    subst this
    exact h2 rfl
theorem bls_map {ι : Type} (g : ι → Bool) : ∀ l : List ι, bls (l.map fun x => D.bl (g x)) = some (l.map g)
  | [] => rfl
  | x :: l => by
    show (match blOf (.bl (g x)), bls (l.map fun x => D.bl (g x)) with | some b, some l => some (b :: l) | _, _ => none) = _
    rw [bls_map g l]
    rfl
theorem intV_dig {S : Sto} {l : List Nat} (h : NumText.AllDigits l) (ne : l ≠ []) (hl : l.length ≤ 640) : intV S [.d (.str (mkS l))] = some (.d (.int (NumText.digitsVal l))) := by
  have e := PySem.intText_digits (x := mkS l) h ne (by rw [len_mk]; omega)
  unfold intV
  have e2 : intText? (mkS l) = some ((NumText.digitsVal l : Nat) : Int) := e
  simp only [e2]
  rw [if_pos (by rw [len_mk]; exact hl)]
theorem lenV_str {S : Sto} {l : List Nat} (h : l.length ≤ 4000) : lenV S [.d (.str (mkS l))] = some (.d (.int l.length)) := by
  have z : sizeLine = 16777216 := rfl
  show (if (mkS l).length ≤ sizeLine then some (Vl.d (.int (mkS l).length)) else none) = _
  rw [len_mk, if_pos (by omega)]
theorem lt_nil : ∀ c ∈ ([] : List Nat), c < 256 := fun _ h => absurd h List.not_mem_nil
theorem atI_zero {α : Type} (c : α) (r : List α) : atI (c :: r) 0 = some c := by
  unfold atI ixN
  rw [if_pos (by omega), if_pos (by simp only [List.length_cons]; omega)]
  rfl
theorem any_dig (l : List Nat) : ((l.map fun k => !dig k).any id) = !l.all dig := by
  induction l with
  | nil => rfl
  | cons c l ih => rw [List.map_cons, List.any_cons, ih, List.all_cons]; cases dig c <;> rfl
theorem whole_in {l : List Nat} (t : Tx l) (S : Sto) : M_whole_in [.d (.str (mkS l))] S = .ok (.d (oI (wholeV l))) S := by
  refine pu_rt (ds := [.str (mkS l)]) (v := .d (oI (wholeV l))) (S' := []) rfl ?_ rfl
  have z : sizeLine = 16777216 := rfl
  have hl := t.len
  cases l with
  | nil =>
    show b_whole_in [some (.d (.str (mkS []))), none] [] = _
    unfold b_whole_in
    simp only [l_e, sSeq, sIf, eOr, eTst, eBin, eVar, eC, sRet, vB, ofO, bind_ok, then_ok, then_rt, List.getElem?_cons_zero, eqV_str false [] lt_nil lt_nil, decide_true, Bool.false_xor, if_true]
    rfl
  | cons c r =>
    show b_whole_in [some (.d (.str (mkS (c :: r)))), none] [] = _
    have lc : eLc [1] (iV (eVar 0)) (gtName 1) eYes (eBin (inV true) (eVar 1) (eC (.str "0123456789"))) [some (.d (.str (mkS (c :: r)))), none] [] = .ok (.d (.lst ((c :: r).map fun k => .bl (!dig k)))) [] := by
      have e := lcGo_map (g := gtName 1) (fe := eBin (inV true) (eVar 1) (eC (.str "0123456789"))) (en := [some (.d (.str (mkS (c :: r)))), none]) (fun k => .str ⟨#[k]⟩) (fun k => .bl (!dig k)) (c :: r) [] (fun k _ => ⟨[some (.d (.str (mkS (c :: r)))), some (.d (.str ⟨#[k]⟩))], rfl, by
        simp only [eBin, eVar, eC, bind_ok, List.getElem?_cons_zero, List.getElem?_cons_succ, inV_dig, ofO, Bool.true_xor]⟩) (by omega)
      show (lcGo _ _ _ _ _ _ _).bind _ = _
      rw [show (wipeE [some (.d (.str (mkS (c :: r)))), none] [1]) = [some (.d (.str (mkS (c :: r)))), none] from rfl]
      exact (congrArg (fun o => Out.bind o _) e)
    have an : anyV true [] [.d (.lst ((c :: r).map fun k => .bl (!dig k)))] = some (.d (.bl (!(c :: r).all dig))) := by
      show (match bls ((c :: r).map fun k => .bl (!dig k)) with | some bs => some (Vl.d (.bl (if true = true then bs.any id else bs.all id))) | none => none) = _
      rw [bls_map]
      simp only [if_true]
      rw [any_dig]
    have ix : ixV [] (.d (.str (mkS (c :: r)))) (.d (.int 0)) = some (.d (.str (mkS [c]))) := by
      show (if (mkS (c :: r)).length ≤ sizeLine then _ else none) = _
      rw [if_pos (by rw [len_mk]; omega)]
      show (match atI (c :: r) 0 with | some c => some (Vl.d (D.str ⟨#[c]⟩)) | none => none) = _
      rw [atI_zero]
    have hc : ∀ k ∈ [c], k < 256 := fun k hk => by rw [List.mem_singleton.mp hk]; exact t.lt c (List.mem_cons_self ..)
    unfold b_whole_in
    simp only [l_e, l_0, sSeq, sIf, eOr, eAnd, eTst, eBin, eCB, aCons, aNil, eVar, eC, eIf, sRet, sNx, vB, ofO, bind_ok, then_ok, then_nx, then_rt, lc, an, ix, List.getElem?_cons_zero, lenV_str hl, eqV_str false [] t.lt lt_nil, eqV_str true [] t.lt (m := [48]) (by decide), eqV_str false [] hc (m := [48]) (by decide), Bool.false_bne, Bool.false_xor, Bool.true_xor, reduceCtorEq, decide_false, Bool.false_eq_true, if_false, gIb]
    unfold wholeV
    cases q : (c :: r).all dig with
    | false =>
      simp only [Bool.not_false, if_true, then_ok, then_rt]
      rw [if_pos (.inr (.inl Bool.false_ne_true))]
      rfl
    | true =>
      simp only [Bool.not_true, Bool.false_eq_true, if_false]
      have iv := intV_dig (S := []) (digs_iff.mpr q) (List.cons_ne_nil _ _) (Nat.le_trans (t.run _ (List.infix_refl _) (digs_iff.mpr q)) (by decide))
      by_cases h1 : [c] = [48]
      · by_cases h2 : c :: r = [48]
        · rw [h2] at iv hl
          simp only [h1, h2, decide_true, if_true, bind_ok, Bool.not_true, then_ok, Bool.false_eq_true, if_false, then_nx]
          simp only [sRet, eIf, eTst, eBin, eCB, aCons, aNil, eVar, eC, vB, ofO, bind_ok, List.getElem?_cons_zero, lenV_str hl, gIb, iv]
          rfl
        · simp only [h1, h2, decide_true, decide_false, if_true, bind_ok, Bool.not_false, then_ok, then_rt]
          rw [if_pos (.inr (.inr ⟨h1, h2⟩))]
          rfl
      · simp only [h1, decide_false, Bool.false_eq_true, if_false, bind_ok, then_ok, then_nx]
        simp only [sRet, eIf, eTst, eBin, eCB, aCons, aNil, eVar, eC, vB, ofO, bind_ok, List.getElem?_cons_zero, lenV_str hl, gIb]
        rw [decide_eq_true (show ((c :: r).length : Int) ≤ 4000 by omega)]
        simp only [if_true, iv, then_ok, bind_ok]
        rw [if_neg]
        · rfl
        · rintro (h | h | ⟨h, _⟩)
          · cases h
          · exact h trivial
          · exact h1 h
end L81
set_option Elab.async false
set_option linter.all false
set_option maxRecDepth 100000
set_option maxHeartbeats 1000000
namespace L81
open PySem PySem.Spec PyProof.Rows L2 Sm TL

/-! ## numbers that are read -/
def oN : Option (Int × Int) → D
  | none => .non
  | some p => nD p.1 p.2
def bodyL (l : List Nat) : List Nat := if l.take 1 = [45] then l.drop 1 else l
theorem bodyL_inf (l : List Nat) : bodyL l <:+: l := by
  unfold bodyL
  split
  · exact (List.drop_suffix 1 l).isInfix
  · exact List.infix_refl l
theorem slV_to {S : Sto} {l : List Nat} (h : l.length ≤ 4000) : slV S (.d (.str (mkS l))) none (some 1) = some (.str (mkS (l.take 1))) := by
  have z : sizeLine = 16777216 := rfl
  show (if (mkS l).length ≤ sizeLine then some (D.str (cutS (mkS l) none (some 1))) else none) = _
  rw [if_pos (by rw [len_mk]; omega)]
  exact congrArg (fun x => some (D.str x)) (cut_to l 1)
theorem slV_from {S : Sto} {l : List Nat} (h : l.length ≤ 4000) : slV S (.d (.str (mkS l))) (some 1) none = some (.str (mkS (l.drop 1))) := by
  have z : sizeLine = 16777216 := rfl
  show (if (mkS l).length ≤ sizeLine then some (D.str (cutS (mkS l) (some 1) none)) else none) = _
  rw [if_pos (by rw [len_mk]; omega)]
  exact congrArg (fun x => some (D.str x)) (cut_from l 1)
theorem neg_t {en : En} {l : List Nat} (h : en[0]? = some (some (.d (.str (mkS l))))) (t : Tx l) (S : Sto) : eTst (eBin (eqV false) (eSl (eVar 0) oNone (oSome (eC (.int 1)))) (eC (.str "-"))) en S = .ok (decide (l.take 1 = [45])) S := by
  simp only [eTst, eBin, eSl, eVar, eC, oNone, oSome, h, bind_ok, slV_to t.len, l_mi, eqV_str false S (fun c hc => t.lt c (List.mem_of_mem_take hc)) (m := [45]) (by decide), ofO, vB, Bool.false_xor]
theorem neg_e {en : En} {l : List Nat} (h : en[0]? = some (some (.d (.str (mkS l))))) (t : Tx l) (S : Sto) : eIf (eTst (eBin (eqV false) (eSl (eVar 0) oNone (oSome (eC (.int 1)))) (eC (.str "-")))) (eSl (eVar 0) (oSome (eC (.int 1))) oNone) (eVar 0) en S = .ok (.d (.str (mkS (bodyL l)))) S := by
  unfold eIf bodyL
  rw [neg_t h t]
  by_cases q : l.take 1 = [45]
  · simp only [q, decide_true, bind_ok, if_true, eSl, eVar, h, oNone, oSome, eC, slV_from t.len]
  · simp only [q, decide_false, bind_ok, Bool.false_eq_true, if_false, eVar, h]
theorem int_head (a : Int) : (intL a).take 1 = [45] ↔ a < 0 := by
  unfold intL
  by_cases h : a < 0
  · rw [if_pos h]
    exact ⟨fun _ => h, fun _ => rfl⟩
  · rw [if_neg h]
    refine ⟨fun e => ?_, fun z => absurd z h⟩
    have := numL_digits a.natAbs
    cases q : numL a.natAbs with
    | nil => exact absurd q (numL_ne _)
    | cons c r =>
      rw [q] at e this
      have e : [c] = [45] := e
      injection e with e
      have := this.head
      omega
theorem int_body (a : Int) (m : List Nat) : bodyL (intL a ++ m) = numL a.natAbs ++ m ∧ ((intL a ++ m).take 1 = [45] ↔ a < 0) := by
  have ne : intL a ≠ [] := by
    unfold intL
    split
    · exact List.cons_ne_nil _ _
    · exact numL_ne _
  have e : (intL a ++ m).take 1 = (intL a).take 1 := by
    cases q : intL a with
    | nil => exact absurd q ne
    | cons c r => rfl
  have h2 : (intL a ++ m).take 1 = [45] ↔ a < 0 := by rw [e]; exact int_head a
  refine ⟨?_, h2⟩
  unfold bodyL
  by_cases h : a < 0
  · rw [if_pos (h2.mpr h)]
    unfold intL
    rw [if_pos h]
    rfl
  · rw [if_neg (fun z => h (h2.mp z))]
    unfold intL
    rw [if_neg h]
theorem cut_num1 (n : Nat) : cutL [47] (numL n) = [numL n] := spl_last1 (numL_free (.inl (by decide)))
theorem cut_num2 (n m : Nat) : cutL [47] (numL n ++ 47 :: numL m) = [numL n, numL m] := by
  have e := spl_part1 (s := 47) (S := []) (p := numL n) (rest := numL m) (acc := []) (numL_free (.inl (by decide)))
  have e2 : numL n ++ ([47] ++ numL m) = numL n ++ 47 :: numL m := rfl
  rw [e2] at e
  rw [show cutL [47] (numL n ++ 47 :: numL m) = _ from e]
  exact congrArg (numL n :: ·) (cut_num1 m)
theorem numTL_cut {a b : Int} (h : Vd a b) : cutL [47] (bodyL (numTL a b)) = (if b = 1 then [numL a.natAbs] else [numL a.natAbs, numL b.natAbs]) ∧ ((numTL a b).take 1 = [45] ↔ a < 0) := by
  have hb := h.1
  obtain ⟨e1, e2⟩ := int_body a (if b = 1 then [] else 47 :: intL b)
  refine ⟨?_, e2⟩
  have e1 : bodyL (numTL a b) = _ := e1
  rw [e1]
  by_cases q : b = 1
  · rw [if_pos q, if_pos q, List.append_nil]
    exact cut_num1 _
  · rw [if_neg q, if_neg q]
    have : intL b = numL b.natAbs := if_neg (by omega)
    rw [this]
    exact cut_num2 _ _
theorem lenV_lst (S : Sto) (l : List D) : lenV S [.d (.lst l)] = some (.d (.int l.length)) := rfl
theorem ixL0 (S : Sto) (x : D) (l : List D) : ixV S (.d (.lst (x :: l))) (.d (.int 0)) = some (.d x) := by
  show (match atI (x :: l) 0 with | some d => some (Vl.d d) | none => none) = _
  rw [atI_zero]
theorem ixL1 (S : Sto) (x y : D) : ixV S (.d (.lst [x, y])) (.d (.int 1)) = some (.d y) := rfl
theorem wholes {en : En} {l : List Nat} (i : Nat) (P : List (List Nat)) (he : en[1]? = some (some (.d (.lst (P.map fun q => .str (mkS q)))))) (hw : wipeE en [5] = en) (hn : en.length = 6) (tp : ∀ p ∈ P, Tx p) (hl : P.length ≤ 4001) (S : Sto) :
    eLc [5] (iV (eVar 1)) (gtName 5) eYes (eFn 1 M_whole_in (aCons (eVar 5) aNil)) en S = .ok (.d (.lst (P.map fun q => oI (wholeV q)))) S := by
  have z : sizeLine = 16777216 := rfl
  have e := lcGo_map (g := gtName 5) (fe := eFn 1 M_whole_in (aCons (eVar 5) aNil)) (en := en) (fun q => .str (mkS q)) (fun q => oI (wholeV q)) P S (fun q hq => ⟨en.set 5 (some (.d (.str (mkS q)))), rfl, by
    have e5 : (en.set 5 (some (.d (.str (mkS q)))))[5]? = some (some (.d (.str (mkS q)))) := by
      rw [List.getElem?_set_self (by omega)]
    simp only [eFn, aCons, aNil, eVar, e5, bind_ok, List.length_cons, List.length_nil, noXc, Nat.reduceAdd, and_self, if_true, whole_in (tp q hq)]⟩) (by omega)
  show (iV (eVar 1) en S).bind _ = _
  have : iV (eVar 1) en S = .ok (P.map fun q => .str (mkS q)) S := by
    simp only [iV, eVar, he, bind_ok, walkV]
  rw [this]
  show (lcGo _ _ _ _ _ _ _).bind _ = _
  rw [hw]
  exact (congrArg (fun o => Out.bind o _) e)
theorem gcd_not {a b : Int} (n : Nat) : Vd a b → numTL a b = [] → False := fun _ h => by
  unfold numTL intL at h
  have h1 := (List.append_eq_nil_iff.mp h).1
  split at h1
  · cases h1
  · exact numL_ne _ h1
def topI (l : List Nat) (i : Int) : Int := if l.take 1 = [45] then 0 - i else i
theorem top_e {en : En} {l : List Nat} {m : List D} {i : Int} (h : en[0]? = some (some (.d (.str (mkS l))))) (h2 : en[2]? = some (some (.d (.lst (.int i :: m))))) (t : Tx l) (S : Sto) : eIf (eTst (eBin (eqV false) (eSl (eVar 0) oNone (oSome (eC (.int 1)))) (eC (.str "-")))) (eBin subV (eC (.int 0)) (eBin ixV (eVar 2) (eC (.int 0)))) (eBin ixV (eVar 2) (eC (.int 0))) en S = .ok (.d (.int (topI l i))) S := by
  unfold eIf topI
  rw [neg_t h t]
  by_cases q : l.take 1 = [45]
  · simp only [q, decide_true, bind_ok, if_true, eBin, eVar, h2, eC, ixL0, ofO]
    rfl
  · simp only [q, decide_false, bind_ok, Bool.false_eq_true, if_false, eBin, eVar, h2, eC, ixL0, ofO]
theorem topI_sl {l : List Nat} {i : Int} (h : Sl i) : Sl (topI l i) := by
  unfold topI
  split
  · rw [Int.zero_sub]; exact h.neg
  · exact h
theorem numTL_lt {a b : Int} : ∀ c ∈ numTL a b, c < 256 := by
  have hi : ∀ i : Int, ∀ c ∈ intL i, c < 256 := fun i c hc => by
    unfold intL at hc
    split at hc
    · rcases List.mem_cons.mp hc with h | h
      · omega
      · have := numL_digits _ c h; omega
    · have := numL_digits _ c hc; omega
  intro c hc
  unfold numTL at hc
  rcases List.mem_append.mp hc with h | h
  · exact hi a c h
  · split at h
    · exact absurd h List.not_mem_nil
    · rcases List.mem_cons.mp h with h | h
      · omega
      · exact hi b c h
theorem num_end {en : En} {l : List Nat} {a b : Int} (h : en[0]? = some (some (.d (.str (mkS l))))) (h2 : en[4]? = some (some (.d (nD a b)))) (t : Tx l) (ha : Sl a) (hb : Sl b) (S : Sto) :
    sRet (eIf (eAnd (eTst (eFn 1 M_is_number (aCons (eVar 4) aNil))) (eTst (eBin (eqV false) (eFn 1 M_number_text (aCons (eVar 4) aNil)) (eVar 0)))) (eVar 4) (eC .non)) en S = .rt (.d (oN (if Vd a b ∧ numTL a b = l then some (a, b) else none))) S := by
  simp only [sRet, eIf, eAnd, eTst, eFn, aCons, aNil, eVar, h2, h, bind_ok, List.length_cons, List.length_nil, noXc, Nat.reduceAdd, and_self, if_true, is_number, vB]
  by_cases v : Vd a b
  · simp only [v, decide_true, if_true, true_and, eBin, eFn, aCons, aNil, eVar, h2, h, bind_ok, List.length_cons, List.length_nil, noXc, Nat.reduceAdd, and_self, number_text ha hb, numT_mk, eqV_str false S numTL_lt t.lt, ofO, Bool.false_xor, eC]
    by_cases q : numTL a b = l
    · simp only [q, decide_true, if_true, then_ok]
      rfl
    · simp only [q, decide_false, if_false, Bool.false_eq_true, then_ok]
      rfl
  · simp only [v, decide_false, if_false, Bool.false_eq_true, false_and, eC, bind_ok, then_ok]
    rfl
theorem pick_iff {a b : Int} {l : List Nat} {x y : Int} (u : Vd x y → numTL x y = l → x = a ∧ y = b) : (if Vd a b ∧ numTL a b = l then some (a, b) else none) = some (x, y) ↔ (Vd x y ∧ numTL x y = l) := by
  constructor
  · intro h
    split at h
    · cases h
      assumption
    · cases h
  · intro h
    obtain ⟨rfl, rfl⟩ := u h.1 h.2
    rw [if_pos h]
theorem top_num {l : List Nat} {a : Int} (h : l.take 1 = [45] ↔ a < 0) : topI l (a.natAbs : Int) = a := by
  unfold topI
  split
  · have := h.mp (by assumption); omega
  · rename_i z
    have : ¬ a < 0 := fun q => z (h.mpr q)
    omega
theorem number_in {l : List Nat} (t : Tx l) : ∃ r : Option (Int × Int), (∀ S, M_number_in [.d (.str (mkS l))] S = .ok (.d (oN r)) S) ∧ ∀ a b, r = some (a, b) ↔ (Vd a b ∧ numTL a b = l) := by
  have zz : sizeLine = 16777216 := rfl
  have tb : Tx (bodyL l) := t.sub (bodyL_inf l)
  have tp : ∀ p ∈ cutL [47] (bodyL l), Tx p := fun p hp => tb.sub (cutL_inf hp)
  have hl : (cutL [47] (bodyL l)).length ≤ 4001 := Nat.le_trans (cut_len _ _ _ _) (by have := tb.len; omega)
  have ne : cutL [47] (bodyL l) ≠ [] := spl_ne _ _ _ _
  suffices H : ∃ r : Option (Int × Int), b_number_in [some (.d (.str (mkS l))), none, none, none, none, none] [] = .rt (.d (oN r)) [] ∧ ∀ a b, r = some (a, b) ↔ (Vd a b ∧ numTL a b = l) by
    obtain ⟨r, h1, h2⟩ := H
    exact ⟨r, fun S => pu_rt (ds := [.str (mkS l)]) (v := .d (oN r)) (S' := []) rfl h1 rfl, h2⟩
  have A : ∀ a b, Vd a b → numTL a b = l → cutL [47] (bodyL l) = (if b = 1 then [numL a.natAbs] else [numL a.natAbs, numL b.natAbs]) ∧ (l.take 1 = [45] ↔ a < 0) := fun a b h e => by
    rw [← e]
    exact numTL_cut h
  unfold b_number_in
  generalize hP : cutL [47] (bodyL l) = P at *
  have st1 : eM1 splitV (eIf (eTst (eBin (eqV false) (eSl (eVar 0) oNone (oSome (eC (.int 1)))) (eC (.str "-")))) (eSl (eVar 0) (oSome (eC (.int 1))) oNone) (eVar 0)) (eC (.str "/")) [some (.d (.str (mkS l))), none, none, none, none, none] [] = .ok (.d (.lst (P.map fun q => .str (mkS q)))) [] := by
    unfold eM1
    rw [neg_e rfl t]
    simp only [bind_ok, isS, if_true, eC, l_sl, splitV_mk [] (P := [47]) (List.cons_ne_nil _ _) (by decide) tb.len, hP, ofO]
  rw [seq_nx (en1 := [some (.d (.str (mkS l))), some (.d (.lst (P.map fun q => .str (mkS q)))), none, none, none, none]) (s1 := []) (by unfold sSet; rw [st1]; rfl)]
  rw [seq_nx (en1 := [some (.d (.str (mkS l))), some (.d (.lst (P.map fun q => .str (mkS q)))), some (.d (.lst (P.map fun q => oI (wholeV q)))), none, none, none]) (s1 := []) (by unfold sSet; rw [wholes (l := l) 5 P rfl rfl rfl tp hl]; rfl)]
  rcases P with _ | ⟨p, _ | ⟨q, _ | ⟨x, P⟩⟩⟩
  · exact absurd rfl ne
  · cases hw : wholeV p with
    | none =>
      refine ⟨none, ?_, fun a b => ⟨fun h => (by cases h), fun h => ?_⟩⟩
      · simp only [List.map_cons, List.map_nil, hw]
        rfl
      · have := (A a b h.1 h.2).1
        split at this
        · injection this with this
          rw [this, wholeV_num] at hw
          cases hw
        · cases this
    | some i =>
      have hi := wholeV_val hw
      have si : Sl i := by rw [hi.2]; exact (tp p (List.mem_cons_self ..)).dval hi.1
      refine ⟨if Vd (topI l i) 1 ∧ numTL (topI l i) 1 = l then some (topI l i, 1) else none, ?_, fun x y => pick_iff fun vx ex => ?_⟩
      · simp only [List.map_cons, List.map_nil, hw]
        refine (seq_nx (en1 := [some (.d (.str (mkS l))), some (.d (.lst [.str (mkS p)])), some (.d (.lst [.int i])), none, none, none]) (s1 := []) rfl).trans ?_
        refine (seq_nx (en1 := [some (.d (.str (mkS l))), some (.d (.lst [.str (mkS p)])), some (.d (.lst [.int i])), some (.d (.int (topI l i))), none, none]) (s1 := []) ?_).trans ?_
        · unfold sSet
          rw [top_e (l := l) (m := []) (i := i) rfl rfl t]
          rfl
        refine (seq_nx (en1 := [some (.d (.str (mkS l))), some (.d (.lst [.str (mkS p)])), some (.d (.lst [.int i])), some (.d (.int (topI l i))), some (.d (nD (topI l i) 1)), none]) (s1 := []) rfl).trans ?_
        exact num_end rfl rfl t (topI_sl si) (by show (1 : Int).natAbs < 10 ^ 300; exact Nat.one_lt_pow (by decide) (by decide)) []
      · have := A x y vx ex
        have e := this.1
        split at e
        · injection e with e
          rw [e, wholeV_num] at hw
          injection hw with hw
          refine ⟨?_, by assumption⟩
          rw [← hw]
          exact (top_num this.2).symm
        · cases e
  · cases hw : wholeV p with
    | none =>
      refine ⟨none, ?_, fun a b => ⟨fun h => (by cases h), fun h => ?_⟩⟩
      · simp only [List.map_cons, List.map_nil, hw]
        cases wholeV q <;> rfl
      · have := (A a b h.1 h.2).1
        split at this
        · cases this
        · injection this with this _
          rw [this, wholeV_num] at hw
          cases hw
    | some i =>
      have hi := wholeV_val hw
      have si : Sl i := by rw [hi.2]; exact (tp p (List.mem_cons_self ..)).dval hi.1
      cases hv : wholeV q with
      | none =>
        refine ⟨none, ?_, fun a b => ⟨fun h => (by cases h), fun h => ?_⟩⟩
        · simp only [List.map_cons, List.map_nil, hw, hv]
          rfl
        · have := (A a b h.1 h.2).1
          split at this
          · cases this
          · injection this with _ this
            injection this with this _
            rw [this, wholeV_num] at hv
            cases hv
      | some j =>
        have hj := wholeV_val hv
        have sj : Sl j := by rw [hj.2]; exact (tp q (List.mem_cons_of_mem _ (List.mem_cons_self ..))).dval hj.1
        refine ⟨if Vd (topI l i) j ∧ numTL (topI l i) j = l then some (topI l i, j) else none, ?_, fun x y => pick_iff fun vx ex => ?_⟩
        · simp only [List.map_cons, List.map_nil, hw, hv]
          refine (seq_nx (en1 := [some (.d (.str (mkS l))), some (.d (.lst [.str (mkS p), .str (mkS q)])), some (.d (.lst [.int i, .int j])), none, none, none]) (s1 := []) rfl).trans ?_
          refine (seq_nx (en1 := [some (.d (.str (mkS l))), some (.d (.lst [.str (mkS p), .str (mkS q)])), some (.d (.lst [.int i, .int j])), some (.d (.int (topI l i))), none, none]) (s1 := []) ?_).trans ?_
          · unfold sSet
            rw [top_e (l := l) (m := [.int j]) (i := i) rfl rfl t]
            rfl
          refine (seq_nx (en1 := [some (.d (.str (mkS l))), some (.d (.lst [.str (mkS p), .str (mkS q)])), some (.d (.lst [.int i, .int j])), some (.d (.int (topI l i))), some (.d (nD (topI l i) j)), none]) (s1 := []) rfl).trans ?_
          exact num_end rfl rfl t (topI_sl si) sj []
        · have := A x y vx ex
          have e := this.1
          split at e
          · cases e
          · injection e with e e2
            injection e2 with e2 _
            rw [e, wholeV_num] at hw
            rw [e2, wholeV_num] at hv
            injection hw with hw
            injection hv with hv
            refine ⟨?_, ?_⟩
            · rw [← hw]
              exact (top_num this.2).symm
            · have := vx.1
              omega
  · refine ⟨none, ?_, fun a b => ⟨fun h => (by cases h), fun h => ?_⟩⟩
    · refine seq_rt ?_
      have hd : (2 : Int) < (((p :: q :: x :: P).map fun q => oI (wholeV q)).length : Nat) := by simp only [List.map_cons, List.length_cons]; omega
      simp only [sIf, eOr, eTst, eBin, eCB, aCons, aNil, eVar, eC, vB, ofO, bind_ok, then_ok, List.getElem?_cons_zero, List.getElem?_cons_succ, lenV_lst, gIb, decide_eq_true hd, if_true, sRet]
      rfl
    · have := (A a b h.1 h.2).1
      split at this <;> cases this
end L81
set_option Elab.async false
set_option linter.all false
set_option maxRecDepth 100000
set_option maxHeartbeats 1000000
namespace L81
open PySem PySem.Spec PyProof.Rows L2 Sm TL

/-! ## data within data -/
def Gd (k : Nat) (d : PyData) : Prop := d.canLay0 = true ∧ d.depth ≤ k
theorem Gd.shp {k : Nat} {d : PyData} (h : Gd k d) (hk : k ≤ 64) : SeqAt.shaped d = true := by
  unfold SeqAt.shaped
  rw [h.1, Bool.true_and, decide_eq_true_eq]
  exact Nat.le_trans h.2 hk
theorem Gd.all {k : Nat} : ∀ {l : List PyData}, (∀ x ∈ l, Gd k x) → PyData.canLayAll0 l = true ∧ PyData.depthAll l ≤ k
  | [], _ => ⟨by simp only [PyData.canLayAll0], by simp only [PyData.depthAll]; omega⟩
  | x :: l, h => by
    have h1 := h x (List.mem_cons_self ..)
    have h2 := Gd.all fun y hy => h y (List.mem_cons_of_mem _ hy)
    refine ⟨?_, ?_⟩
    · simp only [PyData.canLayAll0, h1.1, h2.1, Bool.and_self]
    · simp only [PyData.depthAll]
      exact Nat.max_le.mpr ⟨h1.2, h2.2⟩
theorem Gd.list {k : Nat} {l : List PyData} (h : ∀ x ∈ l, Gd k x) : Gd (k + 1) (.list l) := by
  have e := Gd.all h
  refine ⟨?_, ?_⟩
  · simp only [PyData.canLay0, e.1]
  · simp only [PyData.depth]
    omega
theorem Gd.tuple {k : Nat} {l : List PyData} (h : ∀ x ∈ l, Gd k x) : Gd (k + 1) (.tuple l) := by
  have e := Gd.all h
  refine ⟨?_, ?_⟩
  · simp only [PyData.canLay0, e.1]
  · simp only [PyData.depth]
    omega
theorem Gd.mono {k m : Nat} {d : PyData} (h : Gd k d) (e : k ≤ m) : Gd m d := ⟨h.1, Nat.le_trans h.2 e⟩
theorem Gd.int (i : Int) (k : Nat) : Gd k (.int i) := ⟨by simp only [PyData.canLay0], by simp only [PyData.depth]; omega⟩
theorem Gd.non (k : Nat) : Gd k .none := ⟨by simp only [PyData.canLay0], by simp only [PyData.depth]; omega⟩
theorem toPys_map {ι : Type} (f : ι → D) (g : ι → PyData) : ∀ l : List ι, (∀ x ∈ l, toPy (f x) = some (g x)) → toPys (l.map f) = some (l.map g)
  | [], _ => rfl
  | x :: l, h => by
    have h1 := h x (List.mem_cons_self ..)
    have h2 := toPys_map f g l fun y hy => h y (List.mem_cons_of_mem _ hy)
    rw [List.map_cons, List.map_cons]
    unfold toPys
    rw [h1, h2]
theorem toPy_lst {l : List D} {m : List PyData} (h : toPys l = some m) : toPy (.lst l) = some (.list m) := by
  unfold toPy
  rw [h]
theorem toPy_tup {l : List D} {m : List PyData} (h : toPys l = some m) : toPy (.tup l) = some (.tuple m) := by
  unfold toPy
  rw [h]
theorem eqV_d {S : Sto} {n : Bool} {x y : D} {d e : PyData} (h1 : toPy x = some d) (h2 : toPy y = some e) (s1 : SeqAt.shaped d = true) (s2 : SeqAt.shaped e = true) : eqV n S (.d x) (.d y) = some (.d (.bl (n ^^ PyData.eqv d e))) := by
  unfold Sm.eqV
  have e1 : pyOf S (.d x) = some d := h1
  have e2 : pyOf S (.d y) = some e := h2
  rw [e1, e2]
  exact if_pos ⟨s1, s2⟩

/-! ## the law's own reading -/
theorem ones_eq (S : Sto) (m : List Nat) : eqV true S (.d (.lst (m.map fun _ => .int 1))) (.d (.lst [])) = some (.d (.bl (!m.isEmpty))) := by
  have h := toPy_lst (toPys_map (fun _ : Nat => D.int 1) (fun _ => PyData.int 1) m fun _ _ => rfl)
  have s : SeqAt.shaped (.list (m.map fun _ => PyData.int 1)) = true := (Gd.list (k := 0) fun x hx => by
    obtain ⟨_, _, rfl⟩ := List.mem_map.mp hx
    exact Gd.int 1 0).shp (by decide)
  rw [eqV_d h (e := .list []) rfl s rfl]
  cases m with
  | nil => rfl
  | cons c m => rfl
theorem filt_dig (l : List Nat) : (l.filter fun k => !dig k).isEmpty = l.all dig := by
  induction l with
  | nil => rfl
  | cons c l ih =>
    rw [List.all_cons, ← ih]
    cases q : dig c with
    | true => rw [List.filter_cons_of_neg (by rw [q]; decide)]; rfl
    | false => rw [List.filter_cons_of_pos (by rw [q]; rfl)]; rfl
theorem not_digs {en : En} {l : List Nat} (h : en[1]? = some (some (.d (.str (mkS l))))) (hn : en.length = 4) (hw : wipeE en [3] = en) (t : Tx l) (S : Sto) :
    eTst (eBin (eqV true) (eLc [3] (iV (eVar 1)) (gtName 3) (eTst (eBin (inV true) (eVar 3) (eC (.str "0123456789")))) (eC (.int 1))) (eLst aNil)) en S = .ok (!l.all dig) S := by
  have z : sizeLine = 16777216 := rfl
  have hl := t.len
  have e := lcGo_filt (g := gtName 3) (ft := eTst (eBin (inV true) (eVar 3) (eC (.str "0123456789")))) (fe := eC (.int 1)) (en := en) (fun k => .str ⟨#[k]⟩) (fun _ => .int 1) (fun k => !dig k) l [] S (fun k _ => ⟨en.set 3 (some (.d (.str ⟨#[k]⟩))), rfl, by
    have e5 : (en.set 3 (some (.d (.str (⟨#[k]⟩ : Str)))))[3]? = some (some (.d (.str ⟨#[k]⟩))) := by
      rw [List.getElem?_set_self (by omega)]
    simp only [eTst, eBin, eVar, eC, e5, bind_ok, inV_dig, ofO, vB, Bool.true_xor], rfl⟩) (by rw [List.length_nil]; omega)
  have e2 : eLc [3] (iV (eVar 1)) (gtName 3) (eTst (eBin (inV true) (eVar 3) (eC (.str "0123456789")))) (eC (.int 1)) en S = .ok (.d (.lst ((l.filter fun k => !dig k).map fun _ => .int 1))) S := by
    show (iV (eVar 1) en S).bind _ = _
    have : iV (eVar 1) en S = .ok (l.map fun k => .str ⟨#[k]⟩) S := by
      simp only [iV, eVar, h, bind_ok, walkV]
    rw [this]
    show (lcGo _ _ _ _ _ _ _).bind _ = _
    rw [hw]
    exact (congrArg (fun o => Out.bind o _) e)
  have e3 : eLst aNil en S = .ok (.d (.lst [])) S := rfl
  simp only [eTst, eBin, e2, e3, bind_ok, ones_eq, ofO, vB, filt_dig]
theorem int_e {en : En} {l : List Nat} (h : en[1]? = some (some (.d (.str (mkS l))))) (hd : NumText.AllDigits l) (ne : l ≠ []) (t : Tx l) (S : Sto) : eCB intV (aCons (eVar 1) aNil) en S = .ok (.d (.int (NumText.digitsVal l))) S := by
  simp only [eCB, aCons, aNil, eVar, h, bind_ok, intV_dig hd ne (Nat.le_trans (t.run _ (List.infix_refl _) hd) (by decide)), ofO]
theorem intL_num_of_body {l : List Nat} {i : Int} (h : intL i = l) : bodyL l = numL i.natAbs ∧ (l.take 1 = [45] ↔ i < 0) := by
  have := int_body i []
  rw [List.append_nil, List.append_nil, h] at this
  exact this
theorem law_whole {l : List Nat} (t : Tx l) : ∃ r : Option Int, (∀ S, M__law_read_whole [.d (.str (mkS l))] S = .ok (.d (oI r)) S) ∧ (∀ i, r = some i → intL i = l ∧ Sl i) ∧ ∀ i, intL i = l → r = some i := by
  have tb : Tx (bodyL l) := t.sub (bodyL_inf l)
  suffices H : ∃ r : Option Int, b__law_read_whole [some (.d (.str (mkS l))), none, none, none] [] = .rt (.d (oI r)) [] ∧ (∀ i, r = some i → intL i = l ∧ Sl i) ∧ ∀ i, intL i = l → r = some i by
    obtain ⟨r, h1, h2⟩ := H
    exact ⟨r, fun S => pu_rt (ds := [.str (mkS l)]) (v := .d (oI r)) (S' := []) rfl h1 rfl, h2⟩
  have W : ∀ {i}, intL i = l → bodyL l = numL i.natAbs ∧ (l.take 1 = [45] ↔ i < 0) := fun h => intL_num_of_body h
  unfold b__law_read_whole
  have s1 : ∀ (v : MS), sSeq (sSet 1 (eIf (eTst (eBin (eqV false) (eSl (eVar 0) oNone (oSome (eC (.int 1)))) (eC (.str "-")))) (eSl (eVar 0) (oSome (eC (.int 1))) oNone) (eVar 0))) v [some (.d (.str (mkS l))), none, none, none] [] = v [some (.d (.str (mkS l))), some (.d (.str (mkS (bodyL l)))), none, none] [] := fun v => seq_nx (by
    unfold sSet
    rw [neg_e rfl t]
    rfl)
  rw [s1]
  have nd := not_digs (en := [some (.d (.str (mkS l))), some (.d (.str (mkS (bodyL l)))), none, none]) rfl rfl rfl tb []
  have le : ¬ (4000 : Int) < ((bodyL l).length : Nat) := by have := tb.len; omega
  by_cases h0 : bodyL l = []
  · refine ⟨none, seq_rt ?_, fun i h => (by cases h), fun i h => ?_⟩
    · simp only [sIf, eOr, eTst, eBin, eVar, eC, l_e, List.getElem?_cons_zero, List.getElem?_cons_succ, bind_ok, eqV_str false [] lt_nil lt_nil, h0, decide_true, ofO, vB, Bool.false_xor, if_true, then_ok, sRet]
      rfl
    · exact absurd ((W h).1.symm.trans h0) (numL_ne _)
  · have h1 : eTst (eBin (eqV false) (eVar 1) (eC (.str ""))) [some (.d (.str (mkS l))), some (.d (.str (mkS (bodyL l)))), none, none] [] = .ok false [] := by
      simp only [eTst, eBin, eVar, eC, l_e, List.getElem?_cons_zero, List.getElem?_cons_succ, bind_ok, eqV_str false [] tb.lt lt_nil, h0, decide_false, ofO, vB, Bool.false_xor]
    have h2 : eTst (eBin (gIb fun i j => decide (j < i)) (eCB lenV (aCons (eVar 1) aNil)) (eC (.int 4000))) [some (.d (.str (mkS l))), some (.d (.str (mkS (bodyL l)))), none, none] [] = .ok false [] := by
      simp only [eTst, eBin, eCB, aCons, aNil, eVar, eC, List.getElem?_cons_zero, List.getElem?_cons_succ, bind_ok, lenV_str tb.len, gIb, decide_eq_false le, ofO, vB]
    cases hd : (bodyL l).all dig with
    | false =>
      refine ⟨none, seq_rt ?_, fun i h => (by cases h), fun i h => ?_⟩
      · unfold sIf eOr
        rw [h1]
        simp only [bind_ok, Bool.false_eq_true, if_false]
        rw [h2]
        simp only [bind_ok, Bool.false_eq_true, if_false]
        rw [nd, hd]
        rfl
      · rw [(W h).1, digs_iff.mp (numL_digits _)] at hd
        cases hd
    | true =>
      have dg := digs_iff.mpr hd
      have sl := tb.dval dg
      generalize hv : (NumText.digitsVal (bodyL l) : Int) = v at sl
      refine ⟨if intL (topI l v) = l then some (topI l v) else none, ?_, fun i h => ?_, fun i h => ?_⟩
      · refine (seq_nx (en1 := [some (.d (.str (mkS l))), some (.d (.str (mkS (bodyL l)))), none, none]) (s1 := []) ?_).trans ?_
        · unfold sIf eOr
          rw [h1]
          simp only [bind_ok, Bool.false_eq_true, if_false]
          rw [h2]
          simp only [bind_ok, Bool.false_eq_true, if_false]
          rw [nd, hd]
          rfl
        refine (seq_nx (en1 := [some (.d (.str (mkS l))), some (.d (.str (mkS (bodyL l)))), some (.d (.int (topI l v))), none]) (s1 := []) ?_).trans ?_
        · have ie := int_e (en := [some (.d (.str (mkS l))), some (.d (.str (mkS (bodyL l)))), none, none]) rfl dg h0 tb []
          unfold sSet eIf topI
          rw [neg_t rfl t]
          by_cases q : l.take 1 = [45]
          · simp only [q, decide_true, bind_ok, if_true, eBin, eC, ie, hv, ofO]
            rfl
          · simp only [q, decide_false, bind_ok, Bool.false_eq_true, if_false, ie, hv]
            rfl
        simp only [sRet, eIf, eTst, eBin, eCB, aCons, aNil, eVar, List.getElem?_cons_zero, List.getElem?_cons_succ, bind_ok, strV_int (topI_sl sl), intS_mk, eqV_str false [] (l := intL (topI l v)) (m := l) (by
          have := numTL_lt (a := topI l v) (b := 1)
          unfold numTL at this
          rw [if_pos rfl, List.append_nil] at this
          exact this) t.lt, ofO, vB, Bool.false_xor, eC]
        by_cases q : intL (topI l v) = l
        · simp only [q, decide_true, if_true, then_ok]
          rfl
        · simp only [q, decide_false, if_false, Bool.false_eq_true, then_ok]
          rfl
      · split at h
        · cases h
          exact ⟨by assumption, topI_sl sl⟩
        · cases h
      · have w := W h
        have : v = (i.natAbs : Int) := by rw [← hv, w.1, numL_val]
        have : topI l v = i := by rw [this]; exact top_num w.2
        rw [this, if_pos h]
theorem gcd_sl {a b : Int} (hb : Sl b) (h : 1 ≤ b) : Sl (Int.gcd a b : Int) := by
  have : Int.gcd a b ≤ b.natAbs := Nat.le_of_dvd (by omega) (Nat.gcd_dvd_right _ _)
  exact Nat.lt_of_le_of_lt this hb
theorem gcd_pos {a b : Int} (h : 1 ≤ b) : 1 ≤ (Int.gcd a b : Int) := by
  have : 0 < Int.gcd a b := Nat.gcd_pos_of_pos_right _ (by omega)
  omega
theorem fr_vd {a b : Int} (h : 1 ≤ b) : Vd (a / Int.gcd a b) (b / Int.gcd a b) := by
  have g := gcd_pos (a := a) h
  have g0 : 0 < Int.gcd a b := by omega
  refine ⟨?_, ?_⟩
  · have : (Int.gcd a b : Int) ∣ b := Int.gcd_dvd_right ..
    obtain ⟨k, hk⟩ := this
    have e : b / (Int.gcd a b : Int) = k := Int.ediv_eq_of_eq_mul_right (by omega) hk
    rw [e]
    rcases Int.lt_or_le k 1 with z | z
    · have : (Int.gcd a b : Int) * k ≤ 0 := Int.mul_nonpos_of_nonneg_of_nonpos (by omega) (by omega)
      omega
    · exact z
  · exact Int.gcd_ediv_gcd_ediv_gcd g0
theorem div_sl {a g : Int} (h : Sl a) (hg : 1 ≤ g) : Sl (a / g) := by
  have : (a / g).natAbs ≤ a.natAbs := Int.natAbs_ediv_le_natAbs a g
  exact Nat.lt_of_le_of_lt this h
theorem law_fr {a b : Int} (ha : Sl a) (hb : Sl b) (h : 1 ≤ b) (S : Sto) : M__law_fr [.d (.int a), .d (.int b)] S = .ok (.d (nD (a / Int.gcd a b) (b / Int.gcd a b))) S := by
  refine pu_rt (ds := [.int a, .int b]) (v := .d (nD (a / Int.gcd a b) (b / Int.gcd a b))) (S' := []) rfl ?_ rfl
  have e := euc (t := eTst (eBin (gIb fun i j => decide (j < i)) (eVar 4) (eC (.int 0)))) (body := sPar2 3 4 (aCons (eVar 4) (aCons (eBin modV (eVar 3) (eVar 4)) aNil)))
    (fun x y => [some (.d (.int a)), some (.d (.int b)), none, some (.d (.int x)), some (.d (.int y))]) (fun a b S => rfl) (fun a b S hb => by
      show sPar2 3 4 _ _ _ = _
      unfold sPar2 aCons eVar eBin modV gI
      simp only [sSeq, sNx, sBk, sCt, sDrop, sRet, sRetN, sIf, sSet, sAsg, sPar2, sPar3, sSub, eVar, eC, eBin, eTst, eUn, eNot, eAnd, eOr, eBl, eAndV, eOrV, eNotV, eIf, vB, aNil, aCons, eTup, eLst, eLstM, oNone, oSome, eSl, eCB, eFn, eM1, isS, iV, iR, walkV, walkD, bind_ok, then_ok, then_nx, then_rt, ofO, List.getElem?_cons_zero, List.getElem?_cons_succ, List.set_cons_zero, List.set_cons_succ, List.map_cons, List.map_nil, List.length_cons, List.length_nil, List.append_nil, List.cons_append, List.nil_append, frz, noXc, Bool.not_true, Bool.not_false, if_true, if_false, ite_true, ite_false, decide_true, decide_false, gor, gI, gIb, gS, asSeq, asLst, absV', maxV, minV, tyN, divV, modV, mulV, addV, subV, addSV, addTV, addLV, mulLV, negV, Nat.reduceAdd, Nat.reduceSub, reduceIte, Bool.false_eq_true, and_self, and_true, true_and, reduceCtorEq, hb, gI, decide_eq_true]) (b.natAbs + 1) a.natAbs b.natAbs [] (by omega) (by omega) (by omega)
  have eg : Int.gcd (a.natAbs : Int) (b.natAbs : Int) = Int.gcd a b := by unfold Int.gcd; simp
  rw [eg] at e
  show b__law_fr [some (.d (.int a)), some (.d (.int b)), none, none, none] [] = _
  unfold b__law_fr
  refine (seq_nx (en1 := [some (.d (.int a)), some (.d (.int b)), none, some (.d (.int a.natAbs)), some (.d (.int b.natAbs))]) (s1 := []) ?_).trans ?_
  · show SO.nx [some (.d (.int a)), some (.d (.int b)), none, some (.d (.int (if a < 0 then -a else a))), some (.d (.int (if b < 0 then -b else b)))] [] = _
    rw [abs_if, abs_if]
  refine (seq_nx (s1 := []) e).trans ?_
  have hg := gcd_pos (a := a) h
  have gl := gcd_sl (a := a) hb h
  generalize (Int.gcd a b : Int) = g at *
  refine (seq_nx (en1 := [some (.d (.int a)), some (.d (.int b)), some (.d (.int 1)), some (.d (.int g)), some (.d (.int 0))]) (s1 := []) ?_).trans ?_
  · have : decide (b < 0) = false := decide_eq_false (by omega)
    simp only [sSet, eIf, eTst, eBin, eVar, eC, List.getElem?_cons_zero, List.getElem?_cons_succ, bind_ok, gIb, this, ofO, vB, Bool.false_eq_true, if_false, then_ok]
    rfl
  have m1 : ∀ i : Int, Sl i → mulV [] (.d (.int 1)) (.d (.int i)) = some (.d (.int i)) := fun i hi => by
    have l := hi.log
    show (match (if mulC 1 i = true then some (Vl.d (.int (1 * i))) else none) with | some r => some r | none => _) = _
    have : mulC 1 i = true := decide_eq_true (by
      have : (1 : Int).natAbs.log2 = 0 := by decide
      omega)
    rw [if_pos this, Int.one_mul]
  have d1 : ∀ i : Int, divV [] (.d (.int i)) (.d (.int g)) = some (.d (.int (i / g))) := fun i => by
    have l := gl.log
    show (if divC i g = true then some (Vl.d (.int (i / g))) else none) = _
    exact if_pos (decide_eq_true ⟨by omega, by omega⟩)
  simp only [sRet, eTup, aCons, aNil, eBin, eVar, List.getElem?_cons_zero, List.getElem?_cons_succ, bind_ok, m1 a ha, m1 b hb, d1, ofO, frz, List.length_cons, List.length_nil, then_ok]
  rfl
theorem fr_same {a b : Int} (h : Vd a b) : a / Int.gcd a b = a ∧ b / Int.gcd a b = b := by
  rw [h.2]
  exact ⟨Int.ediv_one a, Int.ediv_one b⟩
end L81
set_option Elab.async false
set_option linter.all false
set_option maxRecDepth 100000
set_option maxHeartbeats 1000000
namespace L81
open PySem PySem.Spec PyProof.Rows L2 Sm TL

theorem intL_free (a : Int) : 47 ∉ intL a := by
  unfold intL
  split
  · rintro h
    rcases List.mem_cons.mp h with h | h
    · omega
    · exact numL_free (.inl (by decide)) h
  · exact numL_free (.inl (by decide))
theorem numTL_cutl (a b : Int) : cutL [47] (numTL a b) = if b = 1 then [intL a] else [intL a, intL b] := by
  unfold numTL
  split
  · rw [List.append_nil]
    exact spl_last1 (intL_free a)
  · have e := spl_part1 (s := 47) (S := []) (p := intL a) (rest := intL b) (acc := []) (intL_free a)
    have e2 : intL a ++ ([47] ++ intL b) = intL a ++ 47 :: intL b := rfl
    rw [e2] at e
    rw [show cutL [47] (intL a ++ 47 :: intL b) = _ from e]
    exact congrArg (intL a :: ·) (spl_last1 (intL_free b))
theorem law_end {en : En} {l : List Nat} {a b : Int} (h : en[0]? = some (some (.d (.str (mkS l))))) (h2 : en[2]? = some (some (.d (nD a b)))) (t : Tx l) (ha : Sl a) (hb : Sl b) (S : Sto) :
    sRet (eIf (eTst (eBin (eqV false) (eFn 1 M__law_number_text (aCons (eVar 2) aNil)) (eVar 0))) (eVar 2) (eC .non)) en S = .rt (.d (oN (if numTL a b = l then some (a, b) else none))) S := by
  simp only [sRet, eIf, eTst, eBin, eFn, aCons, aNil, eVar, h2, h, bind_ok, List.length_cons, List.length_nil, noXc, Nat.reduceAdd, and_self, if_true, law_number_text ha hb, numT_mk, eqV_str false S numTL_lt t.lt, ofO, vB, Bool.false_xor, eC]
  by_cases q : numTL a b = l
  · simp only [q, decide_true, if_true, then_ok]
    rfl
  · simp only [q, decide_false, if_false, Bool.false_eq_true, then_ok]
    rfl
theorem sl_one : Sl 1 := Nat.one_lt_pow (by decide) (by decide)
/-- behind the two whole numbers -/
theorem law_tail {l : List Nat} {P : D} {a b : Int} {t : MT} (tx : Tx l) (ha : Sl a) (hb : Sl b) (hb1 : 1 ≤ b)
    (ht : t [some (.d (.str (mkS l))), some (.d P), none, some (.d (.int a)), some (.d (.int b))] [] = .ok false []) :
    sSeq (sIf t (sRet (eC .non)) sNx) (sSeq (sSet 2 (eFn 2 M__law_fr (aCons (eVar 3) (aCons (eVar 4) aNil)))) (sRet (eIf (eTst (eBin (eqV false) (eFn 1 M__law_number_text (aCons (eVar 2) aNil)) (eVar 0))) (eVar 2) (eC .non)))) [some (.d (.str (mkS l))), some (.d P), none, some (.d (.int a)), some (.d (.int b))] [] =
    .rt (.d (oN (if numTL (a / Int.gcd a b) (b / Int.gcd a b) = l then some (a / Int.gcd a b, b / Int.gcd a b) else none))) [] := by
  have hg := gcd_pos (a := a) hb1
  refine (seq_nx (en1 := [some (.d (.str (mkS l))), some (.d P), none, some (.d (.int a)), some (.d (.int b))]) (s1 := []) ?_).trans ?_
  · unfold sIf
    rw [ht]
    rfl
  refine (seq_nx (en1 := [some (.d (.str (mkS l))), some (.d P), some (.d (nD (a / Int.gcd a b) (b / Int.gcd a b))), some (.d (.int a)), some (.d (.int b))]) (s1 := []) ?_).trans ?_
  · simp only [sSet, eFn, aCons, aNil, eVar, List.getElem?_cons_zero, List.getElem?_cons_succ, bind_ok, List.length_cons, List.length_nil, noXc, Nat.reduceAdd, and_self, if_true, law_fr ha hb hb1, then_ok]
    rfl
  exact law_end rfl rfl tx (div_sl ha hg) (div_sl hb hg) []
theorem law_pick_iff {a b : Int} {l : List Nat} {x y : Int} (v : Vd a b) (u : Vd x y → numTL x y = l → x = a ∧ y = b) : (if numTL a b = l then some (a, b) else none) = some (x, y) ↔ (Vd x y ∧ numTL x y = l) := by
  constructor
  · intro h
    split at h
    · cases h
      exact ⟨v, by assumption⟩
    · cases h
  · intro h
    obtain ⟨rfl, rfl⟩ := u h.1 h.2
    rw [if_pos h.2]
theorem law_number {l : List Nat} (t : Tx l) : ∃ r : Option (Int × Int), (∀ S, M__law_read_number [.d (.str (mkS l))] S = .ok (.d (oN r)) S) ∧ ∀ a b, r = some (a, b) ↔ (Vd a b ∧ numTL a b = l) := by
  have tp : ∀ p ∈ cutL [47] l, Tx p := fun p hp => t.sub (cutL_inf hp)
  have ne : cutL [47] l ≠ [] := spl_ne _ _ _ _
  suffices H : ∃ r : Option (Int × Int), b__law_read_number [some (.d (.str (mkS l))), none, none, none, none] [] = .rt (.d (oN r)) [] ∧ ∀ a b, r = some (a, b) ↔ (Vd a b ∧ numTL a b = l) by
    obtain ⟨r, h1, h2⟩ := H
    exact ⟨r, fun S => pu_rt (ds := [.str (mkS l)]) (v := .d (oN r)) (S' := []) rfl h1 rfl, h2⟩
  have A : ∀ a b, numTL a b = l → cutL [47] l = (if b = 1 then [intL a] else [intL a, intL b]) := fun a b e => by
    rw [← e]
    exact numTL_cutl a b
  unfold b__law_read_number
  generalize hP : cutL [47] l = P at *
  rw [seq_nx (en1 := [some (.d (.str (mkS l))), some (.d (.lst (P.map fun q => .str (mkS q)))), none, none, none]) (s1 := []) (by
    simp only [sSet, eM1, eVar, eC, List.getElem?_cons_zero, bind_ok, isS, if_true, l_sl, splitV_mk [] (P := [47]) (List.cons_ne_nil _ _) (by decide) t.len, hP, ofO, then_ok]
    rfl)]
  rcases P with _ | ⟨p, _ | ⟨q, _ | ⟨x, P⟩⟩⟩
  · exact absurd rfl ne
  · obtain ⟨rp, w1, w2, w3⟩ := law_whole (tp p (List.mem_cons_self ..))
    rw [seq_nx (en1 := [some (.d (.str (mkS l))), some (.d (.lst [.str (mkS p)])), none, some (.d (oI rp)), some (.d (.int 1))]) (s1 := []) (by
      have e1 : ixV [] (.d (.lst [.str (mkS p)])) (.d (.int 0)) = some (.d (.str (mkS p))) := rfl
      have e2 : eTst (eBin (eqV false) (eCB lenV (aCons (eVar 1) aNil)) (eC (.int 2))) [some (.d (.str (mkS l))), some (.d (.lst [.str (mkS p)])), none, none, none] [] = .ok false [] := rfl
      simp only [List.map_cons, List.map_nil, sPar2, aCons, aNil, eFn, eBin, eIf, e2, eVar, eC, List.getElem?_cons_zero, List.getElem?_cons_succ, bind_ok, e1, ofO, List.length_cons, List.length_nil, noXc, Nat.reduceAdd, and_self, if_true, w1, Bool.false_eq_true, if_false, then_ok]
      rfl)]
    cases rp with
    | none =>
      refine ⟨none, rfl, fun a b => ⟨fun h => (by cases h), fun h => ?_⟩⟩
      have := A a b h.2
      split at this
      · injection this with this _
        have := w3 a this.symm
        cases this
      · cases this
    | some i =>
      have si := (w2 i rfl).2
      refine ⟨_, law_tail t si sl_one (by omega) rfl, fun x y => law_pick_iff (fr_vd (by omega)) fun vx ex => ?_⟩
      have := A x y ex
      split at this
      · rename_i hy
        injection this with this _
        have z := w3 x this.symm
        injection z with z
        subst z
        subst hy
        have := fr_same vx
        exact ⟨this.1.symm, this.2.symm⟩
      · cases this
  · obtain ⟨rp, w1, w2, w3⟩ := law_whole (tp p (List.mem_cons_self ..))
    obtain ⟨rq, v1, v2, v3⟩ := law_whole (tp q (List.mem_cons_of_mem _ (List.mem_cons_self ..)))
    rw [seq_nx (en1 := [some (.d (.str (mkS l))), some (.d (.lst [.str (mkS p), .str (mkS q)])), none, some (.d (oI rp)), some (.d (oI rq))]) (s1 := []) (by
      have e1 : ixV [] (.d (.lst [.str (mkS p), .str (mkS q)])) (.d (.int 0)) = some (.d (.str (mkS p))) := rfl
      have e3 : ixV [] (.d (.lst [.str (mkS p), .str (mkS q)])) (.d (.int 1)) = some (.d (.str (mkS q))) := rfl
      have e2 : eTst (eBin (eqV false) (eCB lenV (aCons (eVar 1) aNil)) (eC (.int 2))) [some (.d (.str (mkS l))), some (.d (.lst [.str (mkS p), .str (mkS q)])), none, none, none] [] = .ok true [] := rfl
      simp only [List.map_cons, List.map_nil, sPar2, aCons, aNil, eFn, eBin, eIf, e2, eVar, eC, List.getElem?_cons_zero, List.getElem?_cons_succ, bind_ok, e1, e3, ofO, List.length_cons, List.length_nil, noXc, Nat.reduceAdd, and_self, if_true, w1, v1, Bool.false_eq_true, if_false, then_ok]
      rfl)]
    have U : ∀ x y, Vd x y → numTL x y = l → rp = some x ∧ rq = some y := fun x y vx ex => by
      have := A x y ex
      split at this
      · cases this
      · injection this with h1 this
        injection this with h2 _
        exact ⟨w3 x h1.symm, v3 y h2.symm⟩
    cases rp with
    | none => exact ⟨none, rfl, fun a b => ⟨fun h => (by cases h), fun h => (by cases (U a b h.1 h.2).1)⟩⟩
    | some i =>
      cases rq with
      | none => exact ⟨none, rfl, fun a b => ⟨fun h => (by cases h), fun h => (by cases (U a b h.1 h.2).2)⟩⟩
      | some j =>
        have si := (w2 i rfl).2
        have sj := (v2 j rfl).2
        by_cases hj : j < 1
        · refine ⟨none, seq_rt ?_, fun a b => ⟨fun h => (by cases h), fun h => ?_⟩⟩
          · have : (sIf (eOr (eTst (eBin (gIb fun i j => decide (j < i)) (eCB lenV (aCons (eVar 1) aNil)) (eC (.int 2)))) (eOr (eTst (eBin (isNV false) (eVar 3) (eC .non))) (eOr (eTst (eBin (isNV false) (eVar 4) (eC .non))) (eTst (eBin (gIb fun i j => decide (i < j)) (eVar 4) (eC (.int 1))))))) (sRet (eC .non)) sNx) [some (.d (.str (mkS l))), some (.d (.lst [.str (mkS p), .str (mkS q)])), none, some (.d (oI (some i))), some (.d (oI (some j)))] [] = if decide (j < 1) = true then .rt (.d .non) [] else .nx [some (.d (.str (mkS l))), some (.d (.lst [.str (mkS p), .str (mkS q)])), none, some (.d (oI (some i))), some (.d (oI (some j)))] [] := rfl
            rw [this, if_pos (decide_eq_true hj)]
            rfl
          · have := (U a b h.1 h.2).2
            injection this with this
            have := h.1.1
            omega
        · refine ⟨_, law_tail t si sj (by omega) ?_, fun x y => law_pick_iff (fr_vd (by omega)) fun vx ex => ?_⟩
          · show (Out.ok (decide (j < 1)) [] : Out Bool) = _
            rw [decide_eq_false hj]
          · obtain ⟨h1, h2⟩ := U x y vx ex
            injection h1 with h1
            injection h2 with h2
            subst h1 h2
            have := fr_same vx
            exact ⟨this.1.symm, this.2.symm⟩
  · obtain ⟨rp, w1, w2, w3⟩ := law_whole (tp p (List.mem_cons_self ..))
    refine ⟨none, ?_, fun a b => ⟨fun h => (by cases h), fun h => ?_⟩⟩
    · have hd : (2 : Int) < (((p :: q :: x :: P).map fun q => D.str (mkS q)).length : Nat) := by simp only [List.map_cons, List.length_cons]; omega
      have hd2 : (((p :: q :: x :: P).map fun q => D.str (mkS q)).length : Int) ≠ 2 := by omega
      have e1 : ∀ S, ixV S (.d (.lst ((p :: q :: x :: P).map fun q => D.str (mkS q)))) (.d (.int 0)) = some (.d (.str (mkS p))) := fun S => by
        rw [List.map_cons]
        exact ixL0 S _ _
      generalize ((p :: q :: x :: P).map fun q => D.str (mkS q)) = Ls at *
      rw [seq_nx (en1 := [some (.d (.str (mkS l))), some (.d (.lst Ls)), none, some (.d (oI rp)), some (.d (.int 1))]) (s1 := []) (by
        simp only [sPar2, aCons, aNil, eFn, eBin, eIf, eTst, eCB, lenV_lst, eqV_int, vB, eVar, eC, List.getElem?_cons_zero, List.getElem?_cons_succ, bind_ok, e1, ofO, List.length_cons, List.length_nil, noXc, Nat.reduceAdd, and_self, if_true, w1, hd2, decide_false, Bool.false_xor, Bool.false_eq_true, if_false, then_ok]
        rfl)]
      refine seq_rt ?_
      simp only [sIf, eOr, eTst, eBin, eCB, aCons, aNil, eVar, eC, vB, ofO, bind_ok, then_ok, List.getElem?_cons_zero, List.getElem?_cons_succ, lenV_lst, gIb, decide_eq_true hd, if_true, sRet]
      rfl
    · have := A a b h.2
      split at this <;> cases this
theorem read_same {l : List Nat} (t : Tx l) : ∃ r : Option (Int × Int), (∀ S, M_number_in [.d (.str (mkS l))] S = .ok (.d (oN r)) S) ∧ (∀ S, M__law_read_number [.d (.str (mkS l))] S = .ok (.d (oN r)) S) ∧ ∀ a b, r = some (a, b) ↔ (Vd a b ∧ numTL a b = l) := by
  obtain ⟨r, h1, h2⟩ := number_in t
  obtain ⟨q, h3, h4⟩ := law_number t
  have : q = r := by
    cases r with
    | some p =>
      obtain ⟨a, b⟩ := p
      exact (h4 a b).mpr ((h2 a b).mp rfl)
    | none =>
      cases q with
      | none => rfl
      | some p =>
        obtain ⟨a, b⟩ := p
        exact ((h2 a b).mpr ((h4 a b).mp rfl)).symm
  subst this
  exact ⟨q, h1, h3, h2⟩
end L81
set_option Elab.async false
set_option linter.all false
set_option maxRecDepth 100000
set_option maxHeartbeats 1000000
namespace L81
open PySem PySem.Spec PyProof.Rows L2 Sm TL

/-! ## rows and tellings that are read -/
def o1 {α : Type} (g : α → D) : Option α → D
  | none => .non
  | some x => g x
def gN (p : Int × Int) : D := nD p.1 p.2
def gR (r : List (Int × Int)) : D := .tup (r.map gN)
def gT (t : List (List (Int × Int))) : D := .tup (t.map gR)
def pN (p : Int × Int) : PyData := .tuple [.int p.1, .int p.2]
def pR (r : List (Int × Int)) : PyData := .tuple (r.map pN)
def pT (t : List (List (Int × Int))) : PyData := .tuple (t.map pR)
def q1 {α : Type} (p : α → PyData) : Option α → PyData
  | none => .none
  | some x => p x
structure Pg {α : Type} (g : α → D) (p : α → PyData) (k : Nat) : Prop where
  py : ∀ x, toPy (g x) = some (p x)
  gd : ∀ x, Gd k (p x)
  nn : ∀ x, PyData.eqv (p x) .none = false
theorem Pg.tup {α : Type} {g : α → D} {p : α → PyData} {k : Nat} (h : Pg g p k) : Pg (fun r : List α => D.tup (r.map g)) (fun r : List α => PyData.tuple (r.map p)) (k + 1) where
  py r := toPy_tup (toPys_map g p r fun x _ => h.py x)
  gd r := Gd.tuple fun x hx => by
    obtain ⟨y, _, rfl⟩ := List.mem_map.mp hx
    exact h.gd y
  nn r := rfl
theorem pgN : Pg gN pN 1 where
  py _ := rfl
  gd x := Gd.tuple (k := 0) fun y hy => by
    rcases List.mem_cons.mp hy with h | hy
    · rw [h]; exact Gd.int _ _
    · rw [List.mem_singleton.mp hy]; exact Gd.int _ _
  nn _ := rfl
theorem pgR : Pg gR pR 2 := pgN.tup
theorem pgT : Pg gT pT 3 := pgR.tup
section
variable {α : Type} {g : α → D} {p : α → PyData} {k : Nat}
theorem o1_py (h : Pg g p k) (x : Option α) : toPy (o1 g x) = some (q1 p x) := by
  cases x with
  | none => rfl
  | some x => exact h.py x
theorem q1_gd (h : Pg g p k) (x : Option α) : Gd k (q1 p x) := by
  cases x with
  | none => exact Gd.non k
  | some x => exact h.gd x
theorem q1_nn (h : Pg g p k) (x : Option α) : PyData.eqv (q1 p x) .none = x.isNone := by
  cases x with
  | none => rfl
  | some x => exact h.nn x
theorem any_nn (h : Pg g p k) : ∀ l : List (Option α), ((l.map (q1 p)).any fun z => PyData.eqv z .none) = l.any fun x => x.isNone
  | [] => rfl
  | x :: l => by rw [List.map_cons, List.any_cons, List.any_cons, q1_nn h, any_nn h l]
theorem inV_lst (h : Pg g p k) (hk : k < 60) (n : Bool) (S : Sto) (l : List (Option α)) : inV n S (.d .non) (.d (.lst (l.map (o1 g)))) = some (.d (.bl (n ^^ l.any fun x => x.isNone))) := by
  have e := toPy_lst (toPys_map (o1 g) (q1 p) l fun x _ => o1_py h x)
  have s := (Gd.list (k := k) (l := l.map (q1 p)) fun x hx => by
    obtain ⟨y, _, rfl⟩ := List.mem_map.mp hx
    exact q1_gd h y).shp (by omega)
  have z : inLV n S (.d .non) (.d (.lst (l.map (o1 g)))) = some (.d (.bl (n ^^ l.any fun x => x.isNone))) := by
    unfold inLV
    rw [show pyOf S (.d .non) = some .none from rfl, show pyOf S (.d (.lst (l.map (o1 g)))) = _ from e]
    show (if _ then _ else _) = _
    rw [if_pos ⟨rfl, s⟩, any_nn h]
  show (match inLV n S (.d .non) (.d (.lst (l.map (o1 g)))) with | some r => some r | none => _) = _
  rw [z]
theorem inV_tup (h : Pg g p k) (hk : k < 60) (n : Bool) (S : Sto) (l : List (Option α)) : inV n S (.d .non) (.d (.tup (l.map (o1 g)))) = some (.d (.bl (n ^^ l.any fun x => x.isNone))) := by
  have e := toPy_tup (toPys_map (o1 g) (q1 p) l fun x _ => o1_py h x)
  have s := (Gd.tuple (k := k) (l := l.map (q1 p)) fun x hx => by
    obtain ⟨y, _, rfl⟩ := List.mem_map.mp hx
    exact q1_gd h y).shp (by omega)
  have z0 : inLV n S (.d .non) (.d (.tup (l.map (o1 g)))) = none := by
    unfold inLV
    rw [show pyOf S (.d .non) = some .none from rfl, show pyOf S (.d (.tup (l.map (o1 g)))) = _ from e]
  have z : inTV n S (.d .non) (.d (.tup (l.map (o1 g)))) = some (.d (.bl (n ^^ l.any fun x => x.isNone))) := by
    unfold inTV
    rw [show pyOf S (.d .non) = some .none from rfl, show pyOf S (.d (.tup (l.map (o1 g)))) = _ from e]
    show (if _ then _ else _) = _
    rw [if_pos ⟨rfl, s⟩, any_nn h]
  show (match inLV n S (.d .non) (.d (.tup (l.map (o1 g)))) with | some r => some r | none => inTV n S (.d .non) (.d (.tup (l.map (o1 g))))) = _
  rw [z0]
  exact z
end
def seqO {α : Type} : List (Option α) → Option (List α)
  | [] => some []
  | none :: _ => none
  | some x :: l => match seqO l with
    | some r => some (x :: r)
    | none => none
theorem seqO_none {α : Type} : ∀ {l : List (Option α)}, (l.any fun x => x.isNone) = true → seqO l = none
  | [], h => by cases h
  | none :: _, _ => rfl
  | some x :: l, h => by
    have := seqO_none (l := l) h
    unfold seqO
    rw [this]
theorem seqO_some {α : Type} : ∀ {l : List (Option α)}, (l.any fun x => x.isNone) = false → ∃ r, seqO l = some r ∧ l = r.map some
  | [], _ => ⟨[], rfl, rfl⟩
  | none :: _, h => by cases h
  | some x :: l, h => by
    obtain ⟨r, h1, h2⟩ := seqO_some (l := l) h
    refine ⟨x :: r, ?_, ?_⟩
    · unfold seqO
      rw [h1]
    · rw [List.map_cons, h2]
theorem map_o1 {α : Type} (g : α → D) (r : List α) : (r.map some).map (o1 g) = r.map g := by
  rw [List.map_map]
  rfl
/-- the parts of a text, read each -/
theorem parts_e {P l : List Nat} {s : Str} (es : s = mkS P) {M : MF} {h : List Nat → D} (hP : P ≠ []) (hk : P.all (· < 256) = true) (t : Tx l) (hm : ∀ q ∈ cutL P l, ∀ S, M [.d (.str (mkS q))] S = .ok (.d (h q)) S) (S : Sto) :
    eLc [2] (iV (eM1 splitV (eVar 0) (eC (.str s)))) (gtName 2) eYes (eFn 1 M (aCons (eVar 2) aNil)) [some (.d (.str (mkS l))), none, none] S = .ok (.d (.lst ((cutL P l).map h))) S := by
  have z : sizeLine = 16777216 := rfl
  have hl : (cutL P l).length ≤ 4001 := Nat.le_trans (cut_len _ _ _ _) (by have := t.len; omega)
  have e := lcGo_map (g := gtName 2) (fe := eFn 1 M (aCons (eVar 2) aNil)) (en := [some (.d (.str (mkS l))), none, none]) (fun q => .str (mkS q)) h (cutL P l) S (fun q hq => ⟨[some (.d (.str (mkS l))), none, some (.d (.str (mkS q)))], rfl, by
    simp only [eFn, aCons, aNil, eVar, List.getElem?_cons_zero, List.getElem?_cons_succ, bind_ok, List.length_cons, List.length_nil, noXc, Nat.reduceAdd, and_self, if_true, hm q hq]⟩) (by omega)
  show (iV (eM1 splitV (eVar 0) (eC (.str s))) _ S).bind _ = _
  have : iV (eM1 splitV (eVar 0) (eC (.str s))) [some (.d (.str (mkS l))), none, none] S = .ok ((cutL P l).map fun q => .str (mkS q)) S := by
    simp only [iV, eM1, eVar, eC, List.getElem?_cons_zero, bind_ok, isS, if_true, es, splitV_mk S hP hk t.len, ofO, walkV]
  rw [this]
  show (lcGo _ _ _ _ _ _ _).bind _ = _
  exact (congrArg (fun o => Out.bind o _) e)
section
variable {α : Type} {g : α → D} {p : α → PyData} {k : Nat}
theorem tail_a (h : Pg g p k) (hk : k < 60) {fe : ME} {en0 : Option Vl} {l : List (Option α)} (he : fe [en0, none, none] [] = .ok (.d (.lst (l.map (o1 g)))) []) :
    sSeq (sSet 1 fe) (sRet (eIf (eTst (eBin (inV false) (eC .non) (eVar 1))) (eC .non) (eCB tupV (aCons (eVar 1) aNil)))) [en0, none, none] [] = .rt (.d (o1 (fun r : List α => D.tup (r.map g)) (seqO l))) [] := by
  refine (seq_nx (en1 := [en0, some (.d (.lst (l.map (o1 g)))), none]) (s1 := []) (by unfold sSet; rw [he]; rfl)).trans ?_
  simp only [sRet, eIf, eTst, eBin, eC, eVar, List.getElem?_cons_zero, List.getElem?_cons_succ, bind_ok, inV_lst h hk, ofO, vB, Bool.false_xor]
  cases q : l.any fun x => x.isNone with
  | true =>
    rw [seqO_none q]
    rfl
  | false =>
    obtain ⟨r, h1, h2⟩ := seqO_some q
    rw [h1, h2, map_o1]
    rfl
theorem tail_b (h : Pg g p k) (hk : k < 60) {fe : ME} {en0 : Option Vl} {l : List (Option α)} (he : fe [en0, none, none] [] = .ok (.d (.lst (l.map (o1 g)))) []) :
    sSeq (sSet 1 (eCB tupV (aCons fe aNil))) (sRet (eIf (eTst (eBin (inV true) (eC .non) (eVar 1))) (eVar 1) (eC .non))) [en0, none, none] [] = .rt (.d (o1 (fun r : List α => D.tup (r.map g)) (seqO l))) [] := by
  refine (seq_nx (en1 := [en0, some (.d (.tup (l.map (o1 g)))), none]) (s1 := []) (by
    simp only [sSet, eCB, aCons, aNil, he, bind_ok]
    rfl)).trans ?_
  simp only [sRet, eIf, eTst, eBin, eC, eVar, List.getElem?_cons_zero, List.getElem?_cons_succ, bind_ok, inV_tup h hk, ofO, vB, Bool.true_xor]
  cases q : l.any fun x => x.isNone with
  | true =>
    rw [seqO_none q]
    rfl
  | false =>
    obtain ⟨r, h1, h2⟩ := seqO_some q
    rw [h1, h2, map_o1]
    rfl
end
open Classical in
noncomputable def rdN (l : List Nat) : Option (Int × Int) := if h : Tx l then choose (read_same h) else none
theorem rdN_of {l : List Nat} (t : Tx l) : (∀ S, M_number_in [.d (.str (mkS l))] S = .ok (.d (o1 gN (rdN l))) S) ∧ (∀ S, M__law_read_number [.d (.str (mkS l))] S = .ok (.d (o1 gN (rdN l))) S) ∧ ∀ a b, rdN l = some (a, b) ↔ (Vd a b ∧ numTL a b = l) := by
  have e : rdN l = Classical.choose (read_same t) := dif_pos t
  have := Classical.choose_spec (read_same t)
  rw [← e] at this
  have eo : ∀ r, oN r = o1 gN r := fun r => by cases r <;> rfl
  simp only [eo] at this
  exact this
def noneL : List Nat := [110, 111, 110, 101]
noncomputable def rdR (l : List Nat) : Option (List (Int × Int)) := if l = noneL then some [] else seqO ((cutL [32] l).map rdN)
noncomputable def rdT (l : List Nat) : Option (List (List (Int × Int))) := seqO ((cutL [44, 32] l).map rdR)
theorem row_in {l : List Nat} (t : Tx l) (S : Sto) : M_row_in [.d (.str (mkS l))] S = .ok (.d (o1 gR (rdR l))) S := by
  refine pu_rt (ds := [.str (mkS l)]) (v := .d (o1 gR (rdR l))) (S' := []) rfl ?_ rfl
  show b_row_in [some (.d (.str (mkS l))), none, none] [] = _
  unfold b_row_in rdR
  have c : eTst (eBin (eqV false) (eVar 0) (eC (.str "none"))) [some (.d (.str (mkS l))), none, none] [] = .ok (decide (l = noneL)) [] := by
    simp only [eTst, eBin, eVar, eC, List.getElem?_cons_zero, bind_ok, l_no, eqV_str false [] t.lt (m := [110, 111, 110, 101]) (by decide), ofO, vB, Bool.false_xor]
    rfl
  by_cases h : l = noneL
  · rw [if_pos h]
    refine seq_rt ?_
    unfold sIf
    rw [c, decide_eq_true h]
    rfl
  · rw [if_neg h]
    refine (seq_nx (en1 := [some (.d (.str (mkS l))), none, none]) (s1 := []) ?_).trans ?_
    · unfold sIf
      rw [c, decide_eq_false h]
      rfl
    refine tail_a pgN (by decide) ?_
    rw [List.map_map]
    exact parts_e l_sp (List.cons_ne_nil _ _) (by decide) t (fun q hq S => (rdN_of (t.sub (cutL_inf hq))).1 S) []
theorem law_row {l : List Nat} (t : Tx l) (S : Sto) : M__law_read_row [.d (.str (mkS l))] S = .ok (.d (o1 gR (rdR l))) S := by
  refine pu_rt (ds := [.str (mkS l)]) (v := .d (o1 gR (rdR l))) (S' := []) rfl ?_ rfl
  show b__law_read_row [some (.d (.str (mkS l))), none, none] [] = _
  unfold b__law_read_row rdR
  have c : eTst (eBin (eqV false) (eVar 0) (eC (.str "none"))) [some (.d (.str (mkS l))), none, none] [] = .ok (decide (l = noneL)) [] := by
    simp only [eTst, eBin, eVar, eC, List.getElem?_cons_zero, bind_ok, l_no, eqV_str false [] t.lt (m := [110, 111, 110, 101]) (by decide), ofO, vB, Bool.false_xor]
    rfl
  by_cases h : l = noneL
  · rw [if_pos h]
    refine seq_rt ?_
    unfold sIf
    rw [c, decide_eq_true h]
    rfl
  · rw [if_neg h]
    refine (seq_nx (en1 := [some (.d (.str (mkS l))), none, none]) (s1 := []) ?_).trans ?_
    · unfold sIf
      rw [c, decide_eq_false h]
      rfl
    refine tail_b pgN (by decide) ?_
    rw [List.map_map]
    exact parts_e l_sp (List.cons_ne_nil _ _) (by decide) t (fun q hq S => (rdN_of (t.sub (cutL_inf hq))).2.1 S) []
theorem telling_in {l : List Nat} (t : Tx l) (S : Sto) : M_telling_in [.d (.str (mkS l))] S = .ok (.d (o1 gT (rdT l))) S := by
  refine pu_rt (ds := [.str (mkS l)]) (v := .d (o1 gT (rdT l))) (S' := []) rfl ?_ rfl
  show b_telling_in [some (.d (.str (mkS l))), none, none] [] = _
  unfold b_telling_in rdT
  refine tail_a pgR (by decide) ?_
  rw [List.map_map]
  exact parts_e l_co (List.cons_ne_nil _ _) (by decide) t (fun q hq S => row_in (t.sub (cutL_inf hq)) S) []
theorem law_telling {l : List Nat} (t : Tx l) (S : Sto) : M__law_read_telling [.d (.str (mkS l))] S = .ok (.d (o1 gT (rdT l))) S := by
  refine pu_rt (ds := [.str (mkS l)]) (v := .d (o1 gT (rdT l))) (S' := []) rfl ?_ rfl
  show b__law_read_telling [some (.d (.str (mkS l))), none, none] [] = _
  unfold b__law_read_telling rdT
  refine tail_b pgR (by decide) ?_
  rw [List.map_map]
  exact parts_e l_co (List.cons_ne_nil _ _) (by decide) t (fun q hq S => law_row (t.sub (cutL_inf hq)) S) []
end L81
set_option Elab.async false
set_option linter.all false
set_option maxRecDepth 100000
set_option maxHeartbeats 1000000
namespace L81
open PySem PySem.Spec PyProof.Rows L2 Sm TL

/-! ## what is shown -/
def S256 (x : Str) : Prop := ∀ c ∈ tl x, c < 256
theorem S256.app {x y : Str} (hx : S256 x) (hy : S256 y) : S256 (x ++ y) := fun c hc => by
  rw [tl_append] at hc
  rcases List.mem_append.mp hc with h | h
  · exact hx c h
  · exact hy c h
theorem S256.lit {s : String} (h : (s.toList.map Char.toNat).all (· < 256) = true) : S256 (Str.ofString s) := fun c hc => by
  rw [tl_ofString] at hc
  exact of_decide_eq_true (List.all_eq_true.mp h c hc)
theorem joinL_mem {P : List Nat} : ∀ {ps : List (List Nat)} {c : Nat}, c ∈ joinL P ps → c ∈ P ∨ ∃ p ∈ ps, c ∈ p
  | [], c, h => absurd h List.not_mem_nil
  | [p], c, h => .inr ⟨p, List.mem_cons_self .., h⟩
  | p :: q :: r, c, h => by
    have h : c ∈ p ++ (P ++ joinL P (q :: r)) := h
    rcases List.mem_append.mp h with h | h
    · exact .inr ⟨p, List.mem_cons_self .., h⟩
    · rcases List.mem_append.mp h with h | h
      · exact .inl h
      · rcases joinL_mem h with h | ⟨x, hx, h⟩
        · exact .inl h
        · exact .inr ⟨x, List.mem_cons_of_mem _ hx, h⟩
theorem S256.join {y : Str} {l : List Str} (hy : S256 y) (hl : ∀ x ∈ l, S256 x) : S256 (Str.join y l) := fun c hc => by
  rw [tl_join] at hc
  rcases joinL_mem hc with h | ⟨p, hp, h⟩
  · exact hy c h
  · obtain ⟨x, hx, rfl⟩ := List.mem_map.mp hp
    exact hl x hx c h
structure Sh (n : Nat) (d : PyData) : Prop where
  sa : d.showable = true
  nd : d.hasDict = false
  sg : S256 d.shown
  le : d.shown.length ≤ n
theorem Sh.mono {n m : Nat} {d : PyData} (h : Sh n d) (e : n ≤ m) : Sh m d := ⟨h.sa, h.nd, h.sg, Nat.le_trans h.le e⟩
theorem shownAll_map : ∀ l : List PyData, PyData.shownAll l = l.map PyData.shown
  | [] => by simp only [PyData.shownAll]; rfl
  | x :: l => by simp only [PyData.shownAll, shownAll_map l, List.map_cons]
theorem Sh.all : ∀ {l : List PyData}, (∀ x ∈ l, x.showable = true ∧ x.hasDict = false) → PyData.showableAll l = true ∧ PyData.hasDictAll l = false
  | [], _ => ⟨by simp only [PyData.showableAll], by simp only [PyData.hasDictAll]⟩
  | x :: l, h => by
    have h1 := h x (List.mem_cons_self ..)
    have h2 := Sh.all fun y hy => h y (List.mem_cons_of_mem _ hy)
    exact ⟨by simp only [PyData.showableAll, h1.1, h2.1, Bool.and_self], by simp only [PyData.hasDictAll, h1.2, h2.2, Bool.or_self]⟩
theorem sum_le {ι : Type} (f g : ι → Nat) : ∀ l : List ι, (∀ x ∈ l, f x ≤ g x) → (l.map f).sum ≤ (l.map g).sum
  | [], _ => Nat.le_refl _
  | x :: l, h => by
    have h1 := h x (List.mem_cons_self ..)
    have h2 := sum_le f g l fun y hy => h y (List.mem_cons_of_mem _ hy)
    rw [List.map_cons, List.map_cons, List.sum_cons, List.sum_cons]
    omega
theorem join_le {ι : Type} {l : List ι} {f : ι → PyData} {w : ι → Nat} (h : ∀ x ∈ l, Sh (w x) (f x)) : (Str.join (Str.ofString ", ") (PyData.shownAll (l.map f))).length ≤ (l.map w).sum + 2 * l.length ∧ S256 (Str.join (Str.ofString ", ") (PyData.shownAll (l.map f))) := by
  refine ⟨?_, S256.join (S256.lit rfl) fun x hx => ?_⟩
  · have e := StrLaws.join_length_le (Str.ofString ", ") (PyData.shownAll (l.map f))
    rw [shownAll_map, List.map_map, List.map_map, List.length_map] at e
    have e2 := sum_le (fun x => (f x).shown.length) w l fun x hx => (h x hx).le
    have e3 : (Str.ofString ", ").length = 2 := by decide
    rw [e3] at e
    have e4 : (l.map (fun x => (f x).shown.length)) = (l.map ((fun x => x.length) ∘ PyData.shown ∘ f)) := rfl
    rw [shownAll_map, List.map_map]
    rw [← e4] at e
    omega
  · rw [shownAll_map] at hx
    obtain ⟨y, hy, rfl⟩ := List.mem_map.mp hx
    obtain ⟨z, hz, rfl⟩ := List.mem_map.mp hy
    exact (h z hz).sg
theorem Sh.tup {ι : Type} {l : List ι} {f : ι → PyData} {w : ι → Nat} (h : ∀ x ∈ l, Sh (w x) (f x)) : Sh ((l.map w).sum + 2 * l.length + 3) (.tuple (l.map f)) := by
  have a := Sh.all (l := l.map f) fun x hx => by
    obtain ⟨y, hy, rfl⟩ := List.mem_map.mp hx
    exact ⟨(h y hy).sa, (h y hy).nd⟩
  have j := join_le h
  have hs : S256 (if (l.map f).length == 1 then ",)" else ")" : String) ∧ (Str.ofString (if (l.map f).length == 1 then ",)" else ")" : String)).length ≤ 2 := by
    split
    · exact ⟨S256.lit rfl, by decide⟩
    · exact ⟨S256.lit rfl, by decide⟩
  refine ⟨by simp only [PyData.showable, a.1], by simp only [PyData.hasDict, a.2], ?_, ?_⟩
  · rw [PyData.shown_tuple]
    exact S256.app (S256.app (S256.lit rfl) j.2) hs.1
  · rw [PyData.shown_tuple, len_app, len_app]
    have e3 : (Str.ofString "(").length = 1 := by decide
    rw [e3]
    have := hs.2
    have := j.1
    omega
theorem Sh.list {ι : Type} {l : List ι} {f : ι → PyData} {w : ι → Nat} (h : ∀ x ∈ l, Sh (w x) (f x)) : Sh ((l.map w).sum + 2 * l.length + 3) (.list (l.map f)) := by
  have a := Sh.all (l := l.map f) fun x hx => by
    obtain ⟨y, hy, rfl⟩ := List.mem_map.mp hx
    exact ⟨(h y hy).sa, (h y hy).nd⟩
  have j := join_le h
  refine ⟨by simp only [PyData.showable, a.1], by simp only [PyData.hasDict, a.2], ?_, ?_⟩
  · rw [PyData.shown_list]
    exact S256.app (S256.app (S256.lit rfl) j.2) (S256.lit rfl)
  · rw [PyData.shown_list, len_app, len_app]
    have e3 : (Str.ofString "[").length = 1 := by decide
    have e4 : (Str.ofString "]").length = 1 := by decide
    rw [e3, e4]
    have := j.1
    omega
theorem intL_lt (i : Int) : ∀ c ∈ intL i, c < 256 := by
  have := numTL_lt (a := i) (b := 1)
  unfold numTL at this
  rw [if_pos rfl, List.append_nil] at this
  exact this
theorem Sh.int {i : Int} (h : Sl i) : Sh (intL i).length (.int i) := by
  have l := h.log
  refine ⟨by simp only [PyData.showable, decide_eq_true_eq]; omega, by simp only [PyData.hasDict], ?_, ?_⟩
  · rw [PyData.shown_int]
    intro c hc
    have hc : c ∈ tl (intS i) := hc
    rw [tl_int] at hc
    exact intL_lt i c hc
  · rw [PyData.shown_int]
    show (intS i).length ≤ _
    rw [len_tl, tl_int]
    exact Nat.le_refl _
theorem Sh.non : Sh 4 .none := ⟨by simp only [PyData.showable], by simp only [PyData.hasDict], by rw [PyData.shown_none]; exact S256.lit rfl, by rw [PyData.shown_none]; decide⟩
theorem cut_sum (P : List Nat) : ∀ (l : List Nat) (k : Nat) (acc : List Nat), ((spl P k acc l).map List.length).sum ≤ acc.length + l.length
  | [], k, acc => by rw [spl_nil]; simp
  | c :: r, 0, acc => by
    cases q : pre P (c :: r) with
    | true =>
      rw [spl_hit q, List.map_cons, List.sum_cons]
      have := cut_sum P r (P.length - 1) []
      simp only [List.length_cons, List.length_nil] at this ⊢
      omega
    | false =>
      rw [spl_miss q]
      have := cut_sum P r 0 (acc ++ [c])
      simp only [List.length_append, List.length_cons, List.length_nil] at this ⊢
      omega
  | c :: r, k + 1, acc => by
    have : ((spl P k acc r).map List.length).sum ≤ acc.length + r.length := cut_sum P r k acc
    show ((spl P k acc r).map List.length).sum ≤ _
    simp only [List.length_cons]; omega
theorem sumw (c e : Nat) : ∀ P : List (List Nat), (P.map fun q => c * q.length + e).sum = c * (P.map List.length).sum + e * P.length
  | [] => by simp
  | p :: P => by
    rw [List.map_cons, List.sum_cons, sumw c e P, List.map_cons, List.sum_cons, List.length_cons, Nat.mul_add, Nat.mul_add]
    omega
theorem shN {l : List Nat} (t : Tx l) : Sh (1 * l.length + 8) (q1 pN (rdN l)) := by
  cases h : rdN l with
  | none => exact Sh.non.mono (by omega)
  | some x =>
    obtain ⟨a, b⟩ := x
    obtain ⟨v, e⟩ := ((rdN_of t).2.2 a b).mp h
    have hla : (intL a).length ≤ l.length := by rw [← e]; unfold numTL; rw [List.length_append]; omega
    have hlb : (intL a).length + (intL b).length ≤ l.length + 1 := by
      rw [← e]; unfold numTL; rw [List.length_append]
      split
      · rename_i hb; rw [hb]; have : (intL 1).length = 1 := by decide
        omega
      · rw [List.length_cons]; omega
    have slb : ∀ i : Int, intL i <:+: l → Sl i := fun i hi => by
      have n : numL i.natAbs <:+: l := by
        unfold intL at hi
        split at hi
        · exact (List.suffix_cons 45 _).isInfix.trans hi
        · exact hi
      have h1 := t.run _ n (numL_digits _)
      have h2 := dval_lt (numL_digits i.natAbs)
      rw [numL_val] at h2
      exact Nat.lt_of_lt_of_le h2 (Nat.pow_le_pow_right (by decide) h1)
    have sa : Sl a := slb a (by rw [← e]; exact (List.prefix_append _ _).isInfix)
    have sb : Sl b := by
      by_cases hb : b = 1
      · rw [hb]; exact sl_one
      · refine slb b ?_
        rw [← e]
        unfold numTL
        rw [if_neg hb]
        exact (List.IsSuffix.isInfix ⟨intL a ++ [47], by rw [List.append_assoc]; rfl⟩)
    have := Sh.tup (l := [a, b]) (f := PyData.int) (w := fun i => (intL i).length) fun x hx => by
      rcases List.mem_cons.mp hx with h | hx
      · rw [h]; exact Sh.int sa
      · rw [List.mem_singleton.mp hx]; exact Sh.int sb
    refine Sh.mono this ?_
    simp only [List.map_cons, List.map_nil, List.sum_cons, List.sum_nil, List.length_cons, List.length_nil]
    omega
theorem shSeq {α : Type} {p : α → PyData} {f : List Nat → Option α} {P : List (List Nat)} {c e : Nat} (h : ∀ q ∈ P, Sh (c * q.length + e) (q1 p (f q))) : Sh (c * (P.map List.length).sum + e * P.length + 2 * P.length + 4) (q1 (fun r : List α => PyData.tuple (r.map p)) (seqO (P.map f))) := by
  cases q : (P.map f).any fun x => x.isNone with
  | true => rw [seqO_none q]; exact Sh.non.mono (by omega)
  | false =>
    obtain ⟨r, h1, h2⟩ := seqO_some q
    rw [h1]
    show Sh _ (PyData.tuple (r.map p))
    have e1 : r.map p = P.map (fun q => q1 p (f q)) := by
      have : (r.map some).map (q1 p) = r.map p := by rw [List.map_map]; rfl
      rw [← this, ← h2, List.map_map]
      rfl
    rw [e1]
    have := Sh.tup h
    rw [sumw] at this
    exact this.mono (by omega)
theorem shR {l : List Nat} (t : Tx l) : Sh (11 * l.length + 14) (q1 pR (rdR l)) := by
  unfold rdR
  split
  · exact (Sh.tup (ι := Nat) (l := []) (f := fun _ => .none) (w := fun _ => 0) (fun x hx => absurd hx List.not_mem_nil)).mono (by simp only [List.map_nil, List.sum_nil, List.length_nil]; omega)
  · have := shSeq (p := pN) (f := rdN) (P := cutL [32] l) (c := 1) (e := 8) fun q hq => shN (t.sub (cutL_inf hq))
    refine Sh.mono this ?_
    have h1 := cut_sum [32] l 0 []
    have h2 := cut_len [32] l 0 []
    rw [List.length_nil] at h1
    show 1 * ((spl [32] 0 [] l).map List.length).sum + 8 * (spl [32] 0 [] l).length + 2 * (spl [32] 0 [] l).length + 4 ≤ _
    omega
theorem shT {l : List Nat} (t : Tx l) : Sh (27 * l.length + 20) (q1 pT (rdT l)) := by
  unfold rdT
  have := shSeq (p := pR) (f := rdR) (P := cutL [44, 32] l) (c := 11) (e := 14) fun q hq => shR (t.sub (cutL_inf hq))
  refine Sh.mono this ?_
  have h1 := cut_sum [44, 32] l 0 []
  have h2 := cut_len [44, 32] l 0 []
  rw [List.length_nil] at h1
  show 11 * ((spl [44, 32] 0 [] l).map List.length).sum + 14 * (spl [44, 32] 0 [] l).length + 2 * (spl [44, 32] 0 [] l).length + 4 ≤ _
  omega
structure Rdr {α : Type} (M1 M2 : MF) (g : α → D) (p : α → PyData) (f : List Nat → Option α) : Prop where
  a : ∀ l, Tx l → ∀ S, M1 [.d (.str (mkS l))] S = .ok (.d (o1 g (f l))) S
  b : ∀ l, Tx l → ∀ S, M2 [.d (.str (mkS l))] S = .ok (.d (o1 g (f l))) S
  k : ∃ k, k < 50 ∧ Pg g p k
  sh : ∀ l, Tx l → Sh 110000 (q1 p (f l))
theorem rdrN : Rdr M_number_in M__law_read_number gN pN rdN := ⟨fun _ t => (rdN_of t).1, fun _ t => (rdN_of t).2.1, ⟨1, by decide, pgN⟩, fun l t => (shN t).mono (by have := t.len; omega)⟩
theorem rdrR : Rdr M_row_in M__law_read_row gR pR rdR := ⟨fun _ t => row_in t, fun _ t => law_row t, ⟨2, by decide, pgR⟩, fun l t => (shR t).mono (by have := t.len; omega)⟩
theorem rdrT : Rdr M_telling_in M__law_read_telling gT pT rdT := ⟨fun _ t => telling_in t, fun _ t => law_telling t, ⟨3, by decide, pgT⟩, fun l t => (shT t).mono (by have := t.len; omega)⟩
end L81
set_option Elab.async false
set_option linter.all false
set_option maxRecDepth 100000
set_option maxHeartbeats 1000000
namespace L81
open PySem PySem.Spec PyProof.Rows L2 Sm TL

/-! ## one line -/
theorem pu_exc {n : Nat} {b : MS} {as : List Vl} {ds : List D} {S0 S' : Sto} {k : Str} {l : List (Str × D)} {en : En} (ha : frz as = some ds) (h : b (enAt n (ds.map .d)) [] = .exc k l en S') : puF (puR n b) as S0 = .exc k l S0 := by
  unfold puF
  rw [ha]
  show (Res.of (retOf (b (enAt n (ds.map .d)) []))).out S0 = _
  rw [h]
  rfl
theorem seq_exc {f g : MS} {en en1 : En} {s s1 : Sto} {k : Str} {l : List (Str × D)} (h : f en s = .exc k l en1 s1) : sSeq f g en s = .exc k l en1 s1 := by
  unfold sSeq; rw [h]; rfl
def hd (l : List Nat) : List Nat := (cutL [10] l).headD []
def one (l : List Nat) : Bool := (cutL [10] l).tail.isEmpty
theorem hd_inf (l : List Nat) : hd l <:+: l := by
  unfold hd
  have ne : cutL [10] l ≠ [] := spl_ne _ _ _ _
  cases h : cutL [10] l with
  | nil => exact absurd h ne
  | cons p P => exact cutL_inf (P := [10]) (by rw [h]; exact List.mem_cons_self ..)
theorem cut_one (s : Nat) : ∀ (l acc p : List Nat), spl [s] 0 acc l = [p] → p = acc ++ l
  | [], acc, p, h => by
    rw [spl_nil] at h
    injection h with h _
    rw [List.append_nil, h]
  | c :: r, acc, p, h => by
    cases q : pre [s] (c :: r) with
    | true =>
      rw [spl_hit q] at h
      injection h with _ h
      exact absurd h (spl_ne _ _ _ _)
    | false =>
      rw [spl_miss q] at h
      have := cut_one s r (acc ++ [c]) p h
      rw [this, List.append_assoc]
      rfl
theorem one_hd {l : List Nat} (h : one l = true) : hd l = l := by
  unfold one at h
  unfold hd
  have ne : cutL [10] l ≠ [] := spl_ne _ _ _ _
  cases q : cutL [10] l with
  | nil => exact absurd q ne
  | cons p P =>
    rw [q] at h
    cases P with
    | nil => exact (cut_one 10 l [] p q)
    | cons x P => cases h
def lineX (i : Int) (S : Sto) : Out Vl := .exc "ParseError" [("line", .int i)] S
def outP {α : Type} (g : α → D) (f : List Nat → Option α) (l : List Nat) (S : Sto) : Out Vl := match f (hd l) with
  | none => lineX 0 S
  | some v => if one l = true then .ok (.d (g v)) S else lineX 1 S
def outD {α : Type} (g : α → D) (f : List Nat → Option α) (l : List Nat) : D := match f (hd l) with
  | none => .tup [.str "line", .int 0]
  | some v => if one l = true then .tup [.str "read", g v] else .tup [.str "line", .int 1]
theorem lines_of {l : List Nat} (t : Tx l) (S : Sto) : M_lines_of [.d (.str (mkS l))] S = .ok (.d (.lst ((cutL [10] l).map fun q => .str (mkS q)))) S := by
  refine pu_rt (ds := [.str (mkS l)]) (v := .d (.lst ((cutL [10] l).map fun q => .str (mkS q)))) (S' := []) rfl ?_ rfl
  show b_lines_of [some (.d (.str (mkS l)))] [] = _
  unfold b_lines_of
  refine (seq_nx (en1 := [some (.d (.str (mkS l)))]) (s1 := []) rfl).trans ?_
  simp only [sRet, eM1, eVar, eC, List.getElem?_cons_zero, bind_ok, isS, if_true, l_nl, splitV_mk [] (P := [10]) (List.cons_ne_nil _ _) (by decide) t.len, ofO, then_ok]
section
variable {α : Type} {M1 M2 : MF} {g : α → D} {p : α → PyData} {f : List Nat → Option α}
theorem isN_o1 (R : Rdr M1 M2 g p f) (S : Sto) (o : Option α) : isNV false S (.d (o1 g o)) (.d .non) = some (.d (.bl o.isNone)) := by
  obtain ⟨k, _, pg⟩ := R.k
  cases o with
  | none => rfl
  | some v =>
    have : isNb (.d (g v)) = false := by
      have h1 := pg.py v
      have h2 := pg.nn v
      show isNb (.d (g v)) = false
      cases q : g v with
      | non =>
        rw [q] at h1
        have : p v = .none := by injection h1 with h1; exact h1.symm
        rw [this] at h2
        cases h2
      | _ => rfl
    show some (Vl.d (.bl (false ^^ isNb (.d (g v))))) = _
    rw [this]
    rfl
theorem len1 (l : List Nat) : (decide ((1 : Int) < (((cutL [10] l).map fun q => D.str (mkS q)).length : Nat))) = !one l ∧ decide ((((cutL [10] l).map fun q => D.str (mkS q)).length : Int) = 1) = one l ∧ ∀ S, ixV S (.d (.lst ((cutL [10] l).map fun q => .str (mkS q)))) (.d (.int 0)) = some (.d (.str (mkS (hd l)))) := by
  unfold one hd
  have ne : cutL [10] l ≠ [] := spl_ne _ _ _ _
  cases q : cutL [10] l with
  | nil => exact absurd q ne
  | cons p P =>
    refine ⟨?_, ?_, fun S => by rw [List.map_cons]; exact ixL0 S _ _⟩
    · cases P with
      | nil => rfl
      | cons x P => 
        show _ = true
        rw [decide_eq_true_eq]
        simp only [List.map_cons, List.length_cons]
        omega
    · cases P with
      | nil => rfl
      | cons x P => 
        show _ = false
        rw [decide_eq_false_iff_not]
        simp only [List.map_cons, List.length_cons]
        omega
theorem one_line {x : Str} (hT : T_read x = some (1, M1)) (R : Rdr M1 M2 g p f) {l : List Nat} (t : Tx l) (S : Sto) : M_one_line [.d (.str (mkS l)), .d (.glo x)] S = outP g f l S := by
  have th : Tx (hd l) := t.sub (hd_inf l)
  obtain ⟨e1, e2, e3⟩ := len1 l
  have s1 : ∀ k, sSeq (sSet 2 (eFn 1 M_lines_of (aCons (eVar 0) aNil))) k [some (.d (.str (mkS l))), some (.d (.glo x)), none, none] [] = k [some (.d (.str (mkS l))), some (.d (.glo x)), some (.d (.lst ((cutL [10] l).map fun q => .str (mkS q)))), none] [] := fun k => seq_nx (by
    simp only [sSet, eFn, aCons, aNil, eVar, List.getElem?_cons_zero, List.getElem?_cons_succ, bind_ok, List.length_cons, List.length_nil, noXc, Nat.reduceAdd, and_self, if_true, lines_of t, then_ok]
    rfl)
  have s2 : ∀ k, sSeq (sSet 3 (eFnV 1 T_read (aCons (eBin ixV (eVar 2) (eC (.int 0))) aNil))) k [some (.d (.str (mkS l))), some (.d (.glo x)), some (.d (.lst ((cutL [10] l).map fun q => .str (mkS q)))), none] [] = k [some (.d (.str (mkS l))), some (.d (.glo x)), some (.d (.lst ((cutL [10] l).map fun q => .str (mkS q)))), some (.d (o1 g (f (hd l))))] [] := fun k => seq_nx (by
    simp only [sSet, eFnV, hT, eFn, aCons, aNil, eBin, eVar, eC, e3, ofO, List.getElem?_cons_zero, List.getElem?_cons_succ, bind_ok, List.length_cons, List.length_nil, noXc, Nat.reduceAdd, and_self, if_true, R.a _ th, then_ok]
    rfl)
  have s3 : eOr (eTst (eBin (isNV false) (eVar 3) (eC .non))) (eTst (eBin (gIb fun i j => decide (j < i)) (eCB lenV (aCons (eVar 2) aNil)) (eC (.int 1)))) [some (.d (.str (mkS l))), some (.d (.glo x)), some (.d (.lst ((cutL [10] l).map fun q => .str (mkS q)))), some (.d (o1 g (f (hd l))))] [] = .ok ((f (hd l)).isNone || !one l) [] := by
    simp only [eOr, eTst, eBin, eCB, aCons, aNil, eVar, eC, List.getElem?_cons_zero, List.getElem?_cons_succ, bind_ok, isN_o1 R, ofO, vB, lenV_lst, gIb, e1]
    cases (f (hd l)).isNone <;> rfl
  cases q : f (hd l) with
  | none =>
    have : outP g f l S = .exc "ParseError" [("line", .int 0)] S := by unfold outP; rw [q]; rfl
    rw [this]
    refine pu_exc (ds := [.str (mkS l), .glo x]) (S' := []) (en := [some (.d (.str (mkS l))), some (.d (.glo x)), some (.d (.lst ((cutL [10] l).map fun q => .str (mkS q)))), some (.d (o1 g (f (hd l))))]) rfl ?_
    show b_one_line [some (.d (.str (mkS l))), some (.d (.glo x)), none, none] [] = _
    unfold b_one_line
    rw [s1, s2]
    refine seq_exc ?_
    unfold sIf
    rw [s3, q]
    rfl
  | some v =>
    cases o : one l with
    | true =>
      have : outP g f l S = .ok (.d (g v)) S := by unfold outP; rw [q]; simp only [o, if_true]
      rw [this]
      refine pu_rt (ds := [.str (mkS l), .glo x]) (v := .d (g v)) (S' := []) rfl ?_ rfl
      show b_one_line [some (.d (.str (mkS l))), some (.d (.glo x)), none, none] [] = _
      unfold b_one_line
      rw [s1, s2]
      refine (seq_nx (en1 := [some (.d (.str (mkS l))), some (.d (.glo x)), some (.d (.lst ((cutL [10] l).map fun q => .str (mkS q)))), some (.d (o1 g (f (hd l))))]) (s1 := []) ?_).trans ?_
      · unfold sIf
        rw [s3, q, o]
        rfl
      · rw [q]; rfl
    | false =>
      have : outP g f l S = .exc "ParseError" [("line", .int 1)] S := by unfold outP; rw [q]; simp only [o, Bool.false_eq_true, if_false]; rfl
      rw [this]
      refine pu_exc (ds := [.str (mkS l), .glo x]) (S' := []) (en := [some (.d (.str (mkS l))), some (.d (.glo x)), some (.d (.lst ((cutL [10] l).map fun q => .str (mkS q)))), some (.d (o1 g (f (hd l))))]) rfl ?_
      show b_one_line [some (.d (.str (mkS l))), some (.d (.glo x)), none, none] [] = _
      unfold b_one_line
      rw [s1, s2]
      refine seq_exc ?_
      have hn := isN_o1 R [] (f (hd l))
      rw [q] at hn
      unfold sIf
      rw [s3, q, o]
      show (sRaiseI pmNI "ParseError" "line" (aCons (eIf (eTst (eBin (isNV false) (eVar 3) (eC .non))) (eC (.int 0)) (eC (.int 1))) aNil)) _ [] = _
      simp only [sRaiseI, aCons, aNil, eIf, eTst, eBin, eVar, eC, List.getElem?_cons_zero, List.getElem?_cons_succ, bind_ok, hn, Option.isNone, ofO, vB, Bool.false_eq_true, if_false, then_ok]
      rfl
/-- parse_number, parse_row, parse_telling -/
theorem parse_of {x : Str} {M : MF} (hM : M = puF (puR 1 (sRet (eFn 2 M_one_line (aCons (eVar 0) (aCons (eC (.glo x)) aNil)))))) (hT : T_read x = some (1, M1)) (R : Rdr M1 M2 g p f) {l : List Nat} (t : Tx l) (S : Sto) : M [.d (.str (mkS l))] S = outP g f l S := by
  have o : ∀ S, M_one_line [.d (.str (mkS l)), .d (.glo x)] S = outP g f l S := one_line hT R t
  have e : (sRet (eFn 2 M_one_line (aCons (eVar 0) (aCons (eC (.glo x)) aNil)))) [some (.d (.str (mkS l)))] [] = (outP g f l []).then [some (.d (.str (mkS l)))] fun x s => .rt x s := by
    simp only [sRet, eFn, aCons, aNil, eVar, eC, List.getElem?_cons_zero, bind_ok, List.length_cons, List.length_nil, noXc, Nat.reduceAdd, and_self, if_true, o]
  subst hM
  unfold outP at e ⊢
  cases q : f (hd l) with
  | none => 
    rw [q] at e
    exact pu_exc (ds := [.str (mkS l)]) rfl e
  | some v =>
    rw [q] at e
    cases o : one l with
    | true =>
      simp only [o, if_true] at e ⊢
      exact pu_rt (ds := [.str (mkS l)]) rfl e rfl
    | false =>
      simp only [o, Bool.false_eq_true, if_false] at e ⊢
      exact pu_exc (ds := [.str (mkS l)]) rfl e
theorem law_spot {x : Str} {M : MF} (hC : T_call x = some (1, M)) {l : List Nat} (hM : ∀ S, M [.d (.str (mkS l))] S = outP g f l S) (S : Sto) : M__law_spot [.d (.glo x), .d (.str (mkS l))] S = .ok (.d (outD g f l)) S := by
  refine pu_rt (ds := [.glo x, .str (mkS l)]) (v := .d (outD g f l)) (S' := []) rfl ?_ rfl
  show b__law_spot [some (.d (.glo x)), some (.d (.str (mkS l))), none] [] = _
  unfold b__law_spot sTry
  have e : (sRet (eTup (aCons (eC (.str "read")) (aCons (eFnV 0 T_call (aCons (eVar 1) aNil)) aNil)))) [some (.d (.glo x)), some (.d (.str (mkS l))), none] [] = ((outP g f l []).bind fun v s => .ok (.d (.tup [.str "read", match v with | .d x => x | _ => .non])) s).then [some (.d (.glo x)), some (.d (.str (mkS l))), none] fun x s => .rt x s := by
    simp only [sRet, eTup, eFnV, hC, eFn, aCons, aNil, eVar, eC, List.getElem?_cons_zero, List.getElem?_cons_succ, bind_ok, List.length_cons, List.length_nil, noXc, Nat.reduceAdd, and_self, if_true, hM]
    unfold outP
    cases q : f (hd l) with
    | none => rfl
    | some v =>
      simp only []
      cases o : one l with
      | true => rfl
      | false => rfl
  rw [e]
  unfold outP outD
  cases q : f (hd l) with
  | none => rfl
  | some v =>
    simp only []
    cases o : one l with
    | true => rfl
    | false => rfl
theorem law_due {x : Str} (hC : T_due x = some (1, M2)) (R : Rdr M1 M2 g p f) {l : List Nat} (t : Tx l) (S : Sto) : M__law_due [.d (.glo x), .d (.str (mkS l))] S = .ok (.d (outD g f l)) S := by
  have th : Tx (hd l) := t.sub (hd_inf l)
  obtain ⟨e1, e2, e3⟩ := len1 l
  refine pu_rt (ds := [.glo x, .str (mkS l)]) (v := .d (outD g f l)) (S' := []) rfl ?_ rfl
  show b__law_due [some (.d (.glo x)), some (.d (.str (mkS l))), none] [] = _
  unfold b__law_due
  rw [seq_nx (en1 := [some (.d (.glo x)), some (.d (.str (mkS l))), some (.d (.lst ((cutL [10] l).map fun q => .str (mkS q))))]) (s1 := []) (by
    simp only [sSet, eM1, eVar, eC, List.getElem?_cons_zero, List.getElem?_cons_succ, bind_ok, isS, if_true, l_nl, splitV_mk [] (P := [10]) (List.cons_ne_nil _ _) (by decide) t.len, ofO, then_ok]
    rfl)]
  have c : eTst (eBin (isNV false) (eFnV 0 T_due (aCons (eBin ixV (eVar 2) (eC (.int 0))) aNil)) (eC .non)) [some (.d (.glo x)), some (.d (.str (mkS l))), some (.d (.lst ((cutL [10] l).map fun q => .str (mkS q))))] [] = .ok (f (hd l)).isNone [] := by
    simp only [eTst, eFnV, hC, eFn, aCons, aNil, eBin, eVar, eC, e3, ofO, List.getElem?_cons_zero, List.getElem?_cons_succ, bind_ok, List.length_cons, List.length_nil, noXc, Nat.reduceAdd, and_self, if_true, R.b _ th, isN_o1 R, vB]
  unfold outD
  cases q : f (hd l) with
  | none =>
    refine seq_rt ?_
    unfold sIf
    rw [c, q]
    rfl
  | some v =>
    rw [seq_nx (en1 := [some (.d (.glo x)), some (.d (.str (mkS l))), some (.d (.lst ((cutL [10] l).map fun q => .str (mkS q))))]) (s1 := []) (by
      unfold sIf
      rw [c, q]
      rfl)]
    have c2 : eTst (eBin (eqV false) (eCB lenV (aCons (eVar 2) aNil)) (eC (.int 1))) [some (.d (.glo x)), some (.d (.str (mkS l))), some (.d (.lst ((cutL [10] l).map fun q => .str (mkS q))))] [] = .ok (one l) [] := by
      simp only [eTst, eCB, aCons, aNil, eBin, eVar, eC, ofO, List.getElem?_cons_zero, List.getElem?_cons_succ, bind_ok, lenV_lst, eqV_int, vB, e2, Bool.false_xor]
    unfold sRet eIf
    rw [c2]
    cases o : one l with
    | true =>
      have fl : f l = some v := by rw [← one_hd o]; exact q
      simp only [bind_ok, if_true, eTup, eFnV, hC, eFn, aCons, aNil, eVar, eC, List.getElem?_cons_zero, List.getElem?_cons_succ, List.length_cons, List.length_nil, noXc, Nat.reduceAdd, and_self, R.b _ t, fl]
      rfl
    | false => rfl
def pyO (f : List Nat → Option α) (p : α → PyData) (l : List Nat) : PyData := match f (hd l) with
  | none => .tuple [.str "line", .int 0]
  | some v => if one l = true then .tuple [.str "read", p v] else .tuple [.str "line", .int 1]
theorem outD_py (R : Rdr M1 M2 g p f) (l : List Nat) : toPy (outD g f l) = some (pyO f p l) := by
  obtain ⟨k, _, pg⟩ := R.k
  unfold outD pyO
  cases q : f (hd l) with
  | none => rfl
  | some v =>
    simp only []
    cases o : one l with
    | true =>
      show (match toPys [.str "read", g v] with | some l => some (PyData.tuple l) | none => none) = _
      have : toPys [.str "read", g v] = some [.str "read", p v] := by
        unfold toPys
        rw [show toPy (.str "read") = some (.str "read") from rfl]
        unfold toPys
        rw [pg.py v]
        rfl
      rw [this]
      rfl
    | false => rfl
end
theorem shLit {s : String} {n : Nat} (h : ((tl (PyData.str (Str.ofString s)).shown).all (· < 256)) = true ∧ (PyData.str (Str.ofString s)).shown.length ≤ n) : Sh n (.str (Str.ofString s)) :=
  ⟨by simp only [PyData.showable], by simp only [PyData.hasDict], fun c hc => of_decide_eq_true (List.all_eq_true.mp h.1 c hc), h.2⟩
theorem shRead : Sh 6 (.str (Str.ofString "read")) := shLit (by rw [PyData.shown_str]; decide +kernel)
theorem shLine : Sh 6 (.str (Str.ofString "line")) := shLit (by rw [PyData.shown_str]; decide +kernel)
theorem Sh.self {n : Nat} {d : PyData} (h : Sh n d) : Sh d.shown.length d := ⟨h.sa, h.nd, h.sg, Nat.le_refl _⟩
theorem Sh.two {m n : Nat} {x y : PyData} (hx : Sh m x) (hy : Sh n y) : Sh (m + n + 7) (.tuple [x, y]) := by
  have := Sh.tup (l := [x, y]) (f := fun z => z) (w := fun z => z.shown.length) fun z hz => by
    rcases List.mem_cons.mp hz with h | hz
    · rw [h]; exact hx.self
    · rw [List.mem_singleton.mp hz]; exact hy.self
  refine Sh.mono this ?_
  have := hx.le
  have := hy.le
  simp only [List.map_cons, List.map_nil, List.sum_cons, List.sum_nil, List.length_cons, List.length_nil]
  omega
theorem Gd.str {s : String} (h : (s.toList.map Char.toNat).all (· < 256) = true) (k : Nat) : Gd k (.str (Str.ofString s)) := by
  refine ⟨?_, by simp only [PyData.depth]; omega⟩
  rw [lit s _ rfl]
  exact okS fun c hc => of_decide_eq_true (List.all_eq_true.mp h c hc)
theorem Gd.two {k : Nat} {x y : PyData} (hx : Gd k x) (hy : Gd k y) : Gd (k + 1) (.tuple [x, y]) := Gd.tuple fun z hz => by
  rcases List.mem_cons.mp hz with h | hz
  · rw [h]; exact hx
  · rw [List.mem_singleton.mp hz]; exact hy
theorem sl_0 : Sl 0 := Nat.lt_trans Nat.zero_lt_one sl_one
section
variable {α : Type} {M1 M2 : MF} {g : α → D} {p : α → PyData} {f : List Nat → Option α}
theorem pyO_ok (R : Rdr M1 M2 g p f) {l : List Nat} (t : Tx l) : Sh 120000 (pyO f p l) ∧ Gd 51 (pyO f p l) := by
  obtain ⟨k, hk, pg⟩ := R.k
  have i0 : Sh 1 (.int 0) := (Sh.int sl_0).mono (by decide)
  have i1 : Sh 1 (.int 1) := (Sh.int sl_one).mono (by decide)
  have sh := R.sh (hd l) (t.sub (hd_inf l))
  unfold pyO
  cases q : f (hd l) with
  | none => exact ⟨(shLine.two i0).mono (by decide), (Gd.two (Gd.str rfl 50) (Gd.int 0 50))⟩
  | some v =>
    rw [q] at sh
    simp only []
    cases o : one l with
    | true =>
      have sh : Sh 110000 (p v) := sh
      exact ⟨(shRead.two sh).mono (by decide), (Gd.two (Gd.str rfl 50) ((pg.gd v).mono (by omega)))⟩
    | false => exact ⟨(shLine.two i1).mono (by decide), (Gd.two (Gd.str rfl 50) (Gd.int 1 50))⟩
theorem repV_tup {S : Sto} {l : List D} {m : List PyData} {n : Nat} (h : toPy (.tup l) = some (.tuple m)) (s : Sh n (.tuple m)) (hn : n ≤ 16777216) (gd : (PyData.tuple m).depth ≤ 64) : repV S [.d (.tup l)] = some (.d (.str (PyData.tuple m).shown)) := by
  have z : sizeLine = 16777216 := rfl
  have hl := s.le
  unfold repV
  simp only []
  rw [show pyOf S (.d (.tup l)) = _ from h]
  exact if_pos ⟨s.sa, s.nd, gd, by omega⟩
theorem repV_lst {S : Sto} {l : List D} {m : List PyData} {n : Nat} (h : toPy (.lst l) = some (.list m)) (s : Sh n (.list m)) (hn : n ≤ 16777216) (gd : (PyData.list m).depth ≤ 64) : repV S [.d (.lst l)] = some (.d (.str (PyData.list m).shown)) := by
  have z : sizeLine = 16777216 := rfl
  have hl := s.le
  unfold repV
  simp only []
  rw [show pyOf S (.d (.lst l)) = _ from h]
  exact if_pos ⟨s.sa, s.nd, gd, by omega⟩
theorem rep_same {F1 F2 : ME} {en : En} {S : Sto} {d : D} {s : Str} (h1 : F1 en S = .ok (.d d) S) (h2 : F2 en S = .ok (.d d) S) (hr : repV S [.d d] = some (.d (.str s))) (hs : S256 s) :
    eTst (eBin (eqV true) (eCB repV (aCons F1 aNil)) (eCB repV (aCons F2 aNil))) en S = .ok false S := by
  have e := eqV_str true S (l := tl s) (m := tl s) hs hs
  rw [mk_tl'] at e
  simp only [eTst, eBin, eCB, aCons, aNil, h1, h2, bind_ok, hr, ofO, e, vB, decide_true]
  rfl
theorem outD_rep (R : Rdr M1 M2 g p f) {l : List Nat} (t : Tx l) (S : Sto) : ∃ s, repV S [.d (outD g f l)] = some (.d (.str s)) ∧ S256 s := by
  have py := outD_py R l
  obtain ⟨sh, gd⟩ := pyO_ok R t
  have ed : ∃ x, outD g f l = .tup x := by
    unfold outD
    cases f (hd l) with
    | none => exact ⟨_, rfl⟩
    | some v =>
      simp only []
      cases one l with
      | true => exact ⟨_, rfl⟩
      | false => exact ⟨_, rfl⟩
  have ep : ∃ m, pyO f p l = .tuple m := by
    unfold pyO
    cases f (hd l) with
    | none => exact ⟨_, rfl⟩
    | some v =>
      simp only []
      cases one l with
      | true => exact ⟨_, rfl⟩
      | false => exact ⟨_, rfl⟩
  obtain ⟨x, ex⟩ := ed
  obtain ⟨m, em⟩ := ep
  rw [ex, em] at py
  rw [em] at sh gd
  refine ⟨_, ?_, sh.sg⟩
  rw [ex]
  exact repV_tup py sh (by decide) (by have := gd.2; omega)
end
end L81
set_option Elab.async false
set_option linter.all false
set_option maxRecDepth 100000
set_option maxHeartbeats 1000000
namespace L81
open PySem PySem.Spec PyProof.Rows L2 Sm TL

/-! ## dice -/
theorem addV_int (S : Sto) (i j : Int) : addV S (.d (.int i)) (.d (.int j)) = some (.d (.int (i + j))) := rfl
theorem subV_int (S : Sto) (i j : Int) : subV S (.d (.int i)) (.d (.int j)) = some (.d (.int (i - j))) := rfl
theorem mulV_int {S : Sto} {i j : Int} (h : mulC i j = true) : mulV S (.d (.int i)) (.d (.int j)) = some (.d (.int (i * j))) := by
  show (match (if mulC i j = true then some (Vl.d (.int (i * j))) else none) with | some r => some r | none => _) = _
  rw [if_pos h]
theorem divV_int {S : Sto} {i j : Int} (h : 0 < j) (h2 : j.natAbs.log2 < 9000) : divV S (.d (.int i)) (.d (.int j)) = some (.d (.int (i / j))) := if_pos (decide_eq_true ⟨h, h2⟩)
theorem modV_int {S : Sto} {i j : Int} (h : 0 < j) : modV S (.d (.int i)) (.d (.int j)) = some (.d (.int (i % j))) := if_pos (decide_eq_true h)
theorem intV_int (S : Sto) (i : Int) : intV S [.d (.int i)] = some (.d (.int i)) := rfl
theorem mulC_of {i j : Int} (hi : i.natAbs < 2 ^ 200) (hj : j.natAbs < 2 ^ 200) : mulC i j = true := by
  have h1 := log_lt (by decide) hi
  have h2 := log_lt (by decide) hj
  exact decide_eq_true (by omega)
theorem small200 {i : Int} {b : Nat} (h : i.natAbs ≤ b) (hb : b < 2 ^ 200) : i.natAbs < 2 ^ 200 := Nat.lt_of_le_of_lt h hb
theorem ixR {S : Sto} {n : Nat} {l : List D} {i : Int} {d : D} (h : S[n]? = some (.lst l)) (e : atI l i = some d) : ixV S (.ref n) (.d (.int i)) = some (.d d) := by
  show (match asSeq S (.ref n) with | some l => (match atI l i with | some d => some (Vl.d d) | none => none) | none => none) = _
  rw [show asSeq S (.ref n) = some l from by show (match S[n]? with | some (.lst l) => some l | _ => none) = _; rw [h]]
  simp only [e]
theorem putR {S : Sto} {n : Nat} {l : List D} {k : Int} {j : Nat} {d : D} (h : S[n]? = some (.lst l)) (e : ixN l.length k = some j) : putV (.ref n) (.d (.int k)) (.d d) S = some (S.set n (.lst (l.set j d))) := by
  show (match S[n]? with | some (.lst l) => (match ixN l.length k with | some j => some (S.set n (.lst (l.set j d))) | none => none) | _ => none) = _
  rw [h]
  simp only [e]
def DiceAt (k : Nat) (S : Sto) (n : Nat) : Prop := ∃ g s c : Int, S[n]? = some (.lst [.int g, .int s, .int c]) ∧ 0 ≤ g ∧ 0 ≤ c ∧ c ≤ k
theorem DiceAt.mono {k m : Nat} {S : Sto} {n : Nat} (h : DiceAt k S n) (e : k ≤ m) : DiceAt m S n := by
  obtain ⟨g, s, c, h1, h2, h3, h4⟩ := h
  exact ⟨g, s, c, h1, h2, h3, by omega⟩
/-- another store: longer, and other things are as they were -/
structure Stp (n : Nat) (S S' : Sto) : Prop where
  len : S.length ≤ S'.length
  same : ∀ m, m ≠ n → m < S.length → S'[m]? = S[m]?
theorem Stp.refl (n : Nat) (S : Sto) : Stp n S S := ⟨Nat.le_refl _, fun _ _ _ => rfl⟩
theorem Stp.trans {n : Nat} {S S1 S2 : Sto} (a : Stp n S S1) (b : Stp n S1 S2) : Stp n S S2 := ⟨Nat.le_trans a.len b.len, fun m h1 h2 => (b.same m h1 (Nat.lt_of_lt_of_le h2 a.len)).trans (a.same m h1 h2)⟩
theorem Stp.set (n : Nat) (S : Sto) (x : Cell) : Stp n S (S.set n x) := ⟨by rw [List.length_set]; exact Nat.le_refl _, fun m h _ => List.getElem?_set_ne (by omega)⟩
theorem stF_rt {n : Nat} {b : MS} {as : List Vl} {S S' : Sto} {v : Vl} (h : b (enAt n as) S = .rt v S') : stF n b as S = .ok v S' := by
  unfold stF
  rw [h]
  rfl
theorem roll {k n : Nat} {S : Sto} {tot : Int} (h : DiceAt k S n) (hk : k < 2 ^ 40) (ht : 0 < tot) (hl : tot.natAbs.log2 < 9000) :
    ∃ r S', M__law_roll [.ref n, .d (.int tot)] S = .ok (.d (.int r)) S' ∧ 0 ≤ r ∧ r < tot ∧ DiceAt (k + 1) S' n ∧ Stp n S S' := by
  obtain ⟨g, s, c, hS, hg, hc, hck⟩ := h
  have hn : n < S.length := (List.getElem?_eq_some_iff.mp hS).1
  have i0 : ∀ a b d : D, atI [a, b, d] 0 = some a := fun _ _ _ => rfl
  have i1 : ∀ a b d : D, atI [a, b, d] 1 = some b := fun _ _ _ => rfl
  have i2 : ∀ a b d : D, atI [a, b, d] 2 = some d := fun _ _ _ => rfl
  have c0 : eTst (eBin (gIb fun i j => decide (j < i)) (eBin ixV (eVar 0) (eC (.int 0))) (eC (.int 0))) [some (.ref n), some (.d (.int tot)), none, none, none] S = .ok (decide (0 < g)) S := by
    simp only [eTst, eBin, eVar, eC, List.getElem?_cons_zero, bind_ok, ixR hS (i0 _ _ _), ofO, vB, gIb]
  by_cases hg0 : 0 < g
  · refine ⟨g % tot, S.set n (.lst [.int (g / tot), .int s, .int c]), stF_rt ?_, Int.emod_nonneg _ (by omega), Int.emod_lt_of_pos _ ht, ⟨g / tot, s, c, List.getElem?_set_self hn, Int.ediv_nonneg hg (by omega), hc, by omega⟩, Stp.set _ _ _⟩
    show b__law_roll [some (.ref n), some (.d (.int tot)), none, none, none] S = _
    unfold b__law_roll
    refine seq_rt ?_
    unfold sIf
    rw [c0, decide_eq_true hg0]
    show sSeq _ _ [some (.ref n), some (.d (.int tot)), none, none, none] S = _
    refine (seq_nx (en1 := [some (.ref n), some (.d (.int tot)), none, none, some (.d (.int (g % tot)))]) (s1 := S) ?_).trans ?_
    · simp only [sSet, eBin, eVar, eC, List.getElem?_cons_zero, List.getElem?_cons_succ, bind_ok, ixR hS (i0 _ _ _), ofO, modV_int ht, then_ok]
      rfl
    refine (seq_nx (en1 := [some (.ref n), some (.d (.int tot)), none, none, some (.d (.int (g % tot)))]) (s1 := S.set n (.lst [.int (g / tot), .int s, .int c])) ?_).trans ?_
    · simp only [sSub, eBin, eVar, eC, List.getElem?_cons_zero, List.getElem?_cons_succ, bind_ok, ixR hS (i0 _ _ _), ofO, divV_int ht hl, then_ok, putR hS (k := 0) (j := 0) rfl]
      rfl
    simp only [sRet, eCB, aCons, aNil, eVar, List.getElem?_cons_zero, List.getElem?_cons_succ, bind_ok, intV_int, ofO, then_ok]
  · let S1 := S.set n (.lst [.int g, .int s, .int (c + 1)])
    have hS1 : S1[n]? = some (.lst [.int g, .int s, .int (c + 1)]) := List.getElem?_set_self hn
    let a := (s + 49979687 * (c + 1)) % 2305843009213693951
    have ha0 : 0 ≤ a := Int.emod_nonneg _ (by decide)
    have ha1 : a < 2305843009213693951 := Int.emod_lt_of_pos _ (by decide)
    let b := (a * a + 131 * (c + 1)) % 2305843009213693921 * 32452843 + a
    have hb0 : 0 ≤ (a * a + 131 * (c + 1)) % 2305843009213693921 := Int.emod_nonneg _ (by decide)
    have hb1 : (a * a + 131 * (c + 1)) % 2305843009213693921 < 2305843009213693921 := Int.emod_lt_of_pos _ (by decide)
    refine ⟨b / 65587 % tot, S1, stF_rt ?_, Int.emod_nonneg _ (by omega), Int.emod_lt_of_pos _ ht, ⟨g, s, c + 1, hS1, hg, by omega, by omega⟩, Stp.set _ _ _⟩
    show b__law_roll [some (.ref n), some (.d (.int tot)), none, none, none] S = _
    unfold b__law_roll
    have m1 : mulC 49979687 (c + 1) = true := mulC_of (by decide) (small200 (b := 2 ^ 41) (by omega) (by decide))
    have m2 : mulC a a = true := mulC_of (small200 (b := 2 ^ 64) (by omega) (by decide)) (small200 (b := 2 ^ 64) (by omega) (by decide))
    have m3 : mulC 131 (c + 1) = true := mulC_of (by decide) (small200 (b := 2 ^ 41) (by omega) (by decide))
    have m4 : mulC ((a * a + 131 * (c + 1)) % 2305843009213693921) 32452843 = true := mulC_of (small200 (b := 2 ^ 64) (by omega) (by decide)) (by decide)
    refine (seq_nx (en1 := [some (.ref n), some (.d (.int tot)), none, none, none]) (s1 := S) ?_).trans ?_
    · unfold sIf
      rw [c0, decide_eq_false hg0]
      rfl
    refine (seq_nx (en1 := [some (.ref n), some (.d (.int tot)), none, none, none]) (s1 := S1) ?_).trans ?_
    · simp only [sSub, eBin, eVar, eC, List.getElem?_cons_zero, List.getElem?_cons_succ, bind_ok, ixR hS (i2 _ _ _), ofO, addV_int, then_ok, putR hS (k := 2) (j := 2) rfl]
      rfl
    refine (seq_nx (en1 := [some (.ref n), some (.d (.int tot)), some (.d (.int a)), none, none]) (s1 := S1) ?_).trans ?_
    · simp only [sSet, eBin, eVar, eC, List.getElem?_cons_zero, List.getElem?_cons_succ, bind_ok, ixR hS1 (i1 _ _ _), ixR hS1 (i2 _ _ _), ofO, mulV_int m1, addV_int, modV_int (show (0 : Int) < 2305843009213693951 by decide), then_ok]
      rfl
    refine (seq_nx (en1 := [some (.ref n), some (.d (.int tot)), some (.d (.int a)), some (.d (.int b)), none]) (s1 := S1) ?_).trans ?_
    · simp only [sSet, eBin, eVar, eC, List.getElem?_cons_zero, List.getElem?_cons_succ, bind_ok, ixR hS1 (i2 _ _ _), ofO, mulV_int m2, mulV_int m3, addV_int, modV_int (show (0 : Int) < 2305843009213693921 by decide), mulV_int m4, then_ok]
      rfl
    simp only [sRet, eCB, aCons, aNil, eBin, eVar, eC, List.getElem?_cons_zero, List.getElem?_cons_succ, bind_ok, divV_int (show (0 : Int) < 65587 by decide) (show (65587 : Int).natAbs.log2 < 9000 by decide), intV_int, ofO, modV_int ht, then_ok]
theorem tot_log {m : Nat} (h : m < 2 ^ 60) : ((m : Nat) : Int).natAbs.log2 < 9000 := by
  have := log_lt (k := 60) (by decide) (n := ((m : Nat) : Int).natAbs) (by simpa using h)
  omega
theorem atI_mem {α : Type} {l : List α} {i : Int} (h0 : 0 ≤ i) (h1 : i < l.length) : ∃ x, atI l i = some x ∧ x ∈ l := by
  have hi : i.toNat < l.length := by omega
  refine ⟨l[i.toNat], ?_, List.getElem_mem hi⟩
  unfold atI ixN
  rw [if_pos h0, if_pos h1]
  exact List.getElem?_eq_getElem hi
theorem pick {k n : Nat} {S : Sto} {l : List D} (h : DiceAt k S n) (hk : k < 2 ^ 40) (hne : l ≠ []) (hl : l.length < 2 ^ 60) :
    ∃ x S', M__law_pick [.ref n, .d (.lst l)] S = .ok (.d x) S' ∧ x ∈ l ∧ DiceAt (k + 1) S' n ∧ Stp n S S' := by
  have hp : 0 < l.length := List.length_pos_iff.mpr hne
  obtain ⟨r, S', e, h0, h1, hd, hs⟩ := roll (tot := ((l.length : Nat) : Int)) h hk (by omega) (tot_log hl)
  obtain ⟨x, ex, hx⟩ := atI_mem h0 h1
  refine ⟨x, S', stF_rt ?_, hx, hd, hs⟩
  show b__law_pick [some (.ref n), some (.d (.lst l))] S = _
  unfold b__law_pick
  have ix : ixV S' (.d (.lst l)) (.d (.int r)) = some (.d x) := by
    show (match atI l r with | some d => some (Vl.d d) | none => none) = _
    rw [ex]
  simp only [sRet, eBin, eFn, eCB, aCons, aNil, eVar, List.getElem?_cons_zero, List.getElem?_cons_succ, bind_ok, List.length_cons, List.length_nil, noXc, Nat.reduceAdd, and_self, if_true, lenV_lst, ofO, e, ix, then_ok]
end L81
set_option Elab.async false
set_option linter.all false
set_option maxRecDepth 100000
set_option maxHeartbeats 1000000
namespace L81
open PySem PySem.Spec PyProof.Rows L2 Sm TL

/-! ## how long texts and their runs of digits are -/
def RunB (n : Nat) (l : List Nat) : Prop := ∀ u, u <:+: l → NumText.AllDigits u → u.length ≤ n
structure TB (m n : Nat) (l : List Nat) : Prop where
  lt : ∀ c ∈ l, c < 256
  len : l.length ≤ m
  run : RunB n l
theorem TB.tx {m n : Nat} {l : List Nat} (h : TB m n l) (hm : m ≤ 4000) (hn : n ≤ 300) : Tx l := ⟨h.lt, Nat.le_trans h.len hm, fun u hu d => Nat.le_trans (h.run u hu d) hn⟩
theorem TB.mono {m n m' n' : Nat} {l : List Nat} (h : TB m n l) (hm : m ≤ m') (hn : n ≤ n') : TB m' n' l := ⟨h.lt, Nat.le_trans h.len hm, fun u hu d => Nat.le_trans (h.run u hu d) hn⟩
theorem TB.sub {m n : Nat} {l p : List Nat} (h : TB m n l) (s : p <:+: l) : TB m n p := ⟨fun c hc => h.lt c (s.subset hc), Nat.le_trans s.length_le h.len, fun u hu d => h.run u (hu.trans s) d⟩
theorem TB.short {k : Nat} {l : List Nat} (h : l.length ≤ k) (hl : ∀ c ∈ l, c < 256) : TB k k l := ⟨hl, h, fun u hu _ => Nat.le_trans hu.length_le h⟩
theorem digs_app {a b : List Nat} (h : NumText.AllDigits (a ++ b)) : NumText.AllDigits a ∧ NumText.AllDigits b := ⟨fun c hc => h c (List.mem_append_left _ hc), fun c hc => h c (List.mem_append_right _ hc)⟩
theorem RunB.app {m n : Nat} {x y : List Nat} (hx : RunB m x) (hy : RunB n y) : RunB (m + n) (x ++ y) := by
  rintro u ⟨s, t, e⟩ d
  rw [List.append_assoc] at e
  rcases List.append_eq_append_iff.mp e with ⟨a, e1, e2⟩ | ⟨a, e1, e2⟩
  · rcases List.append_eq_append_iff.mp e2 with ⟨b, e3, e4⟩ | ⟨b, e3, e4⟩
    · have := hx u ⟨s, b, by rw [e1, e3, List.append_assoc]⟩ d
      omega
    · rw [e3] at d
      have h1 := hx a ⟨s, [], by rw [List.append_nil]; exact e1.symm⟩ (digs_app d).1
      have h2 := hy b ⟨[], t, by rw [List.nil_append]; exact e4.symm⟩ (digs_app d).2
      rw [e3, List.length_append]
      omega
  · have := hy u ⟨a, t, by rw [e2, List.append_assoc]⟩ d
    omega
theorem RunB.cons {n c : Nat} {y : List Nat} (hc : dig c = false) (hy : RunB n y) : RunB n (c :: y) := by
  intro u hu d
  rcases List.infix_cons_iff.mp hu with h | h
  · cases u with
    | nil => exact Nat.zero_le _
    | cons a u =>
      obtain ⟨t, e⟩ := h
      injection e with e _
      subst e
      have := d.head
      unfold dig at hc
      rw [decide_eq_true this] at hc
      cases hc
  · exact hy u h d
theorem RunB.sep {n c : Nat} {x y : List Nat} (hc : dig c = false) (hx : RunB n x) (hy : RunB n y) : RunB n (x ++ c :: y) := by
  rintro u ⟨s, t, e⟩ d
  rw [List.append_assoc] at e
  rcases List.append_eq_append_iff.mp e with ⟨a, e1, e2⟩ | ⟨a, e1, e2⟩
  · rcases List.append_eq_append_iff.mp e2 with ⟨b, e3, e4⟩ | ⟨b, e3, e4⟩
    · exact hx u ⟨s, b, by rw [e1, e3, List.append_assoc]⟩ d
    · rw [e3] at d
      have h1 := hx a ⟨s, [], by rw [List.append_nil]; exact e1.symm⟩ (digs_app d).1
      cases b with
      | nil => rw [e3, List.append_nil]; exact h1
      | cons z b =>
        injection e4 with e4 _
        have := (digs_app d).2.head
        rw [← e4] at this
        unfold dig at hc
        rw [decide_eq_true this] at hc
        cases hc
  · exact (RunB.cons hc hy) u ⟨a, t, by rw [e2, List.append_assoc]⟩ d
theorem TB.app {m n m' n' : Nat} {x y : List Nat} (hx : TB m n x) (hy : TB m' n' y) : TB (m + m') (n + n') (x ++ y) :=
  ⟨fun c hc => by rcases List.mem_append.mp hc with h | h; exact hx.lt c h; exact hy.lt c h, by rw [List.length_append]; have := hx.len; have := hy.len; omega, hx.run.app hy.run⟩
theorem mkS_app (a b : List Nat) : mkS a ++ mkS b = mkS (a ++ b) := ext_tl (tl_append _ _)
theorem addS {a b : List Nat} (S : Sto) (h : a.length + b.length ≤ 16000) : addV S (.d (.str (mkS a))) (.d (.str (mkS b))) = some (.d (.str (mkS (a ++ b)))) := by
  have z : sizeLine = 16777216 := rfl
  show (match addSV S (.d (.str (mkS a))) (.d (.str (mkS b))) with | some r => some r | none => _) = _
  have : addSV S (.d (.str (mkS a))) (.d (.str (mkS b))) = some (.d (.str (mkS (a ++ b)))) := by
    unfold addSV gS
    simp only []
    rw [if_pos (decide_eq_true (by rw [len_mk, len_mk]; omega)), mkS_app]
  rw [this]
theorem twice {a : List Nat} (S : Sto) (h : a.length ≤ 16000) : mulV S (.d (.str (mkS a))) (.d (.int 2)) = some (.d (.str (mkS (a ++ a)))) := by
  show (match (if (2 : Int) = 2 ∧ (mkS a).length ≤ 16000 then some (Vl.d (.str (mkS a ++ mkS a))) else none) with | some r => some r | none => _) = _
  rw [if_pos ⟨rfl, by rw [len_mk]; exact h⟩, mkS_app]
theorem slV_s {S : Sto} {l : List Nat} (h : l.length ≤ 4000) (lo hi : Option Int) : slV S (.d (.str (mkS l))) lo hi = some (.str (cutS (mkS l) lo hi)) := by
  have z : sizeLine = 16777216 := rfl
  exact if_pos (by rw [len_mk]; omega)
section
variable {en : En} {l : List Nat} {j : Nat} (h1 : en[1]? = some (some (.d (.str (mkS l))))) (h4 : en[4]? = some (some (.d (.int (j : Int))))) (hl : l.length ≤ 4000) (S : Sto)
include h1 h4 hl
theorem b_to : eSl (eVar 1) oNone (oSome (eVar 4)) en S = .ok (.d (.str (mkS (l.take j)))) S := by
  simp only [eSl, eVar, oNone, oSome, h1, h4, bind_ok, slV_s hl, cut_to]
theorem b_from : eSl (eVar 1) (oSome (eVar 4)) oNone en S = .ok (.d (.str (mkS (l.drop j)))) S := by
  simp only [eSl, eVar, oNone, oSome, h1, h4, bind_ok, slV_s hl, cut_from]
theorem b_from1 (i : Nat) : eSl (eVar 1) (oSome (eBin addV (eVar 4) (eC (.int (i : Int))))) oNone en S = .ok (.d (.str (mkS (l.drop (j + i))))) S := by
  have e : (j : Int) + (i : Int) = ((j + i : Nat) : Int) := by omega
  simp only [eSl, eVar, oNone, oSome, eBin, eC, h1, h4, bind_ok, addV_int, ofO, e, slV_s hl, cut_from]
theorem b_mid1 : eSl (eVar 1) (oSome (eVar 4)) (oSome (eBin addV (eVar 4) (eC (.int 1)))) en S = .ok (.d (.str (mkS ((l.drop j).take 1)))) S := by
  have e : (j : Int) + 1 = ((j + 1 : Nat) : Int) := by omega
  simp only [eSl, eVar, oNone, oSome, eBin, eC, h1, h4, bind_ok, addV_int, ofO, e, slV_s hl, cut_mid]
  rw [Nat.add_sub_cancel_left]
theorem b_mid2 : eSl (eVar 1) (oSome (eBin addV (eVar 4) (eC (.int 1)))) (oSome (eBin addV (eVar 4) (eC (.int 2)))) en S = .ok (.d (.str (mkS ((l.drop (j + 1)).take 1)))) S := by
  have e : (j : Int) + 1 = ((j + 1 : Nat) : Int) := by omega
  have e2 : (j : Int) + 2 = ((j + 2 : Nat) : Int) := by omega
  simp only [eSl, eVar, oNone, oSome, eBin, eC, h1, h4, bind_ok, addV_int, ofO, e, e2, slV_s hl, cut_mid]
  have : j + 2 - (j + 1) = 1 := by omega
  rw [this]
end
end L81
set_option Elab.async false
set_option linter.all false
set_option maxRecDepth 100000
set_option maxHeartbeats 1000000
namespace L81
open PySem PySem.Spec PyProof.Rows L2 Sm TL

/-! ## bent texts -/
def sgL : List (List Nat) := [[32], [45], [43], [47], [48], [49], [50], [51], [97], [98], [120], [46], [44], [10], [32, 32], [44, 32], [110, 111, 110, 101], [47, 49], [47, 50]]
def sgsD : List D := sgL.map fun q => .str (mkS q)
theorem sg_e (en : En) (S : Sto) : eBin addV (eCB lisV (aCons (eC (.str " -+/0123abx.,")) aNil)) (eLst (aCons (eC (.str "\n")) (aCons (eC (.str "  ")) (aCons (eC (.str ", ")) (aCons (eC (.str "none")) (aCons (eC (.str "/1")) (aCons (eC (.str "/2")) aNil))))))) en S = .ok (.d (.lst sgsD)) S := by
  have e1 : lisV S [.d (.str (Str.ofString " -+/0123abx.,"))] = some (.d (.lst ((sgL.take 13).map fun q => .str (mkS q)))) := by
    rw [lit " -+/0123abx.," [32, 45, 43, 47, 48, 49, 50, 51, 97, 98, 120, 46, 44] rfl]
    rfl
  have a1 : Str.ofString "  " = mkS [32, 32] := lit _ _ rfl
  have a2 : Str.ofString "/1" = mkS [47, 49] := lit _ _ rfl
  have a3 : Str.ofString "/2" = mkS [47, 50] := lit _ _ rfl
  simp only [eBin, eCB, eLst, aCons, aNil, eC, bind_ok, e1, ofO, frz, l_nl, l_co, l_no, a1, a2, a3]
  rfl
theorem sg_mem {x : D} (h : x ∈ sgsD) : ∃ q, x = .str (mkS q) ∧ TB 10 10 q := by
  obtain ⟨q, hq, rfl⟩ := List.mem_map.mp h
  have : ∀ q ∈ sgL, q.length ≤ 10 ∧ q.all (· < 256) = true := by decide
  obtain ⟨h1, h2⟩ := this q hq
  exact ⟨q, rfl, TB.short h1 fun c hc => of_decide_eq_true (List.all_eq_true.mp h2 c hc)⟩
theorem Stp.push (n : Nat) (S : Sto) (x : Cell) : Stp n S (S ++ [x]) := ⟨by rw [List.length_append]; omega, fun m _ h => List.getElem?_append_left h⟩
theorem DiceAt.push {k n : Nat} {S : Sto} (h : DiceAt k S n) (x : Cell) : DiceAt k (S ++ [x]) n := by
  obtain ⟨g, s, c, h1, h2⟩ := h
  exact ⟨g, s, c, by rw [List.getElem?_append_left (List.getElem?_eq_some_iff.mp h1).1]; exact h1, h2⟩
theorem DiceAt.lt {k n : Nat} {S : Sto} (h : DiceAt k S n) : n < S.length := by
  obtain ⟨g, s, c, h1, _⟩ := h
  exact (List.getElem?_eq_some_iff.mp h1).1
theorem DiceAt.set {k n m : Nat} {S : Sto} (h : DiceAt k S n) (e : m ≠ n) (x : Cell) : DiceAt k (S.set m x) n := by
  obtain ⟨g, s, c, h1, h2⟩ := h
  exact ⟨g, s, c, by rw [List.getElem?_set_ne e]; exact h1, h2⟩
theorem aCons_ok {F : ME} {G : MA} {en : En} {S S1 S2 : Sto} {x : Vl} {xs : List Vl} (h : F en S = .ok x S1) (k : G en S1 = .ok xs S2) : aCons F G en S = .ok (x :: xs) S2 := by
  unfold aCons
  rw [h, bind_ok, k, bind_ok]
theorem aNil_ok (en : En) (S : Sto) : aNil en S = .ok [] S := rfl
theorem par2_ok {i j : Nat} {fa : MA} {en : En} {S S1 : Sto} {a b : Vl} (h : fa en S = .ok [a, b] S1) : sPar2 i j fa en S = .nx ((en.set i (some a)).set j (some b)) S1 := by
  unfold sPar2
  rw [h]
  rfl
theorem eBin_ok {g : G2} {fa fb : ME} {en : En} {S S1 S2 : Sto} {a b r : Vl} (h : fa en S = .ok a S1) (k : fb en S1 = .ok b S2) (e : g S2 a b = some r) : eBin g fa fb en S = .ok r S2 := by
  unfold eBin
  rw [h, bind_ok, k, bind_ok, e]
  rfl
theorem set_ok {i : Nat} {f : ME} {en : En} {S S1 : Sto} {x : Vl} (h : f en S = .ok x S1) : sSet i f en S = .nx (en.set i (some x)) S1 := by
  unfold sSet
  rw [h]
  rfl
theorem eFn_ok {n : Nat} {M : MF} {fa : MA} {en : En} {S S1 S2 : Sto} {as : List Vl} {x : Vl} (h : fa en S = .ok as S1) (hn : as.length = n) (hx : noXc as = true) (e : M as S1 = .ok x S2) : eFn n M fa en S = .ok x S2 := by
  unfold eFn
  rw [h, bind_ok, if_pos ⟨hn, hx⟩, e]
theorem eCB_ok {g : GC} {fa : MA} {en : En} {S S1 : Sto} {as : List Vl} {r : Vl} (h : fa en S = .ok as S1) (e : g S1 as = some r) : eCB g fa en S = .ok r S1 := by
  unfold eCB
  rw [h, bind_ok, e]
  rfl
theorem lstM_ok {fa : MA} {en : En} {S S1 : Sto} {as : List Vl} {l : List D} (h : fa en S = .ok as S1) (e : frz as = some l) (hl : l.length ≤ sizeLine) : eLstM fa en S = .ok (.ref S1.length) (S1 ++ [.lst l]) := by
  unfold eLstM
  rw [h, bind_ok, e]
  exact if_pos hl
theorem lst_ok {fa : MA} {en : En} {S S1 : Sto} {as : List Vl} {l : List D} (h : fa en S = .ok as S1) (e : frz as = some l) (hl : l.length ≤ sizeLine) : eLst fa en S = .ok (.d (.lst l)) S1 := by
  unfold eLst
  rw [h, bind_ok, e]
  exact if_pos hl
theorem catM_ok {fa fb : ME} {en : En} {S S1 S2 : Sto} {x y : Vl} {i j : List D} (h : fa en S = .ok x S1) (k : fb en S1 = .ok y S2) (ei : asLst S2 x = some i) (ej : asLst S2 y = some j) (hl : i.length + j.length ≤ sizeLine) : eCatM fa fb en S = .ok (.ref S2.length) (S2 ++ [.lst (i ++ j)]) := by
  unfold eCatM
  rw [h, bind_ok, k, bind_ok, ei, ej]
  exact if_pos hl
theorem asL_ref {S : Sto} {m : Nat} {l : List D} (h : S[m]? = some (.lst l)) : asLst S (.ref m) = some l := by
  show (match S[m]? with | some (.lst l) => some l | _ => none) = _
  rw [h]
theorem app_ok {fo : ME} {fa : MA} {en : En} {S : Sto} {m : Nat} {l : List D} {d : D} (h : fo en S = .ok (.ref m) S) (e : S[m]? = some (.lst l)) (k : fa en S = .ok [.d d] S) (hl : l.length < sizeLine) : eApp fo fa en S = .ok (.d .non) (S.set m (.lst (l ++ [d]))) := by
  unfold eApp
  rw [h, bind_ok]
  have c : isCl S (.ref m) = true := by
    show (match S[m]? with | some (.lst _) => true | _ => false) = true
    rw [e]
  rw [if_pos c, k, bind_ok]
  have a : appV (.ref m) [.d d] S = some (S.set m (.lst (l ++ [d]))) := by
    show (match S[m]? with | some (.lst l) => (if l.length < sizeLine then some (S.set m (.lst (l ++ [d]))) else none) | _ => none) = _
    rw [e]
    exact if_pos hl
  rw [a]
theorem drop_ok {f : ME} {en : En} {S S1 : Sto} {x : Vl} (h : f en S = .ok x S1) : sDrop f en S = .nx en S1 := by
  unfold sDrop
  rw [h]
  rfl
theorem ret_ok {f : ME} {en : En} {S S1 : Sto} {x : Vl} (h : f en S = .ok x S1) : sRet f en S = .rt x S1 := by
  unfold sRet
  rw [h]
  rfl
theorem addL {S : Sto} {x y : Vl} {i j : List D} (hx : ∀ z, x ≠ .d (.int z)) (hs : ∀ z, x ≠ .d (.str z)) (ht : ∀ z, x ≠ .d (.tup z)) (ei : asLst S x = some i) (ej : asLst S y = some j) (hl : i.length + j.length ≤ sizeLine) : addV S x y = some (.d (.lst (i ++ j))) := by
  have h1 : gI (fun _ _ => true) (· + ·) S x y = none := by
    unfold gI
    split
    · rename_i a b; exact absurd rfl (hx a)
    · rfl
  have h2 : addSV S x y = none := by
    unfold addSV gS
    split
    · rename_i a b; exact absurd rfl (hs a)
    · rfl
  have h3 : addTV S x y = none := by
    unfold addTV
    split
    · rename_i a b; exact absurd rfl (ht a)
    · rfl
  have h4 : addLV S x y = some (.d (.lst (i ++ j))) := by
    unfold addLV
    rw [ei, ej]
    exact if_pos hl
  unfold addV gor
  simp only [h1, h2, h3, h4]
abbrev pcs (ws : List (List Nat)) : List D := ws.map fun w => .str (mkS w)
theorem bent {k n : Nat} {S : Sto} {l : List Nat} (h : DiceAt k S n) (hk : k + 10 < 2 ^ 40) (t : TB 1800 70 l) :
    ∃ l' S', M__law_bent [.ref n, .d (.str (mkS l))] S = .ok (.d (.str (mkS l'))) S' ∧ Tx l' ∧ DiceAt (k + 3) S' n ∧ Stp n S S' := by
  have hl := t.len
  have hl4 : l.length ≤ 4000 := by omega
  obtain ⟨r, S1, e1, r0, r1, d1, s1⟩ := roll (tot := (l.length : Int) + 1) h (by omega) (by omega) (tot_log (m := l.length + 1) (by omega))
  obtain ⟨j, rfl⟩ := Int.eq_ofNat_of_zero_le r0
  obtain ⟨x, S2, e2, hx, d2, s2⟩ := pick (l := sgsD) d1 (by omega) (List.cons_ne_nil _ _) (by decide)
  obtain ⟨q, rfl, tq⟩ := sg_mem hx
  have hq := tq.len
  have tT := t.sub (List.take_prefix j l).isInfix
  have tD := fun i => t.sub (List.drop_suffix i l).isInfix
  have tM : ∀ i, TB 1 1 ((l.drop i).take 1) := fun i => TB.short (List.length_take_le ..) fun c hc => (tD i).lt c (List.mem_of_mem_take hc)
  have lT : (l.take j).length ≤ 1800 := tT.len
  have lD : ∀ i, (l.drop i).length ≤ 1800 := fun i => (tD i).len
  have lM : ∀ i, ((l.drop i).take 1).length ≤ 1 := fun i => (tM i).len
  have n2 : n < S2.length := d2.lt
  let E2 : En := [some (.ref n), some (.d (.str (mkS l))), some (.d (.str (mkS q))), none, some (.d (.int (j : Int))), some (.d (.lst sgsD))]
  let W1 : List (List Nat) := [l.take j ++ q ++ l.drop j, l.take j ++ l.drop (j + 1), l.take j ++ q ++ l.drop (j + 1)]
  let W2 : List (List Nat) := W1 ++ [l.take j ++ ((l.drop j).take 1 ++ (l.drop j).take 1) ++ l.drop (j + 1), l.take j]
  let W3 : List (List Nat) := W2 ++ [l.take j ++ (l.drop (j + 1)).take 1 ++ (l.drop j).take 1 ++ l.drop (j + 2)]
  let W4 : List (List Nat) := W3 ++ [l ++ [32], [32] ++ l]
  let S3 : Sto := S2 ++ [.lst (pcs W1)]
  let S4 : Sto := S3 ++ [.lst (pcs W2)]
  let S5 : Sto := S4.set S3.length (.lst (pcs W3))
  let E3 : En := [some (.ref n), some (.d (.str (mkS l))), some (.d (.str (mkS q))), some (.ref S2.length), some (.d (.int (j : Int))), some (.d (.lst sgsD))]
  let E4 : En := [some (.ref n), some (.d (.str (mkS l))), some (.d (.str (mkS q))), some (.ref S3.length), some (.d (.int (j : Int))), some (.d (.lst sgsD))]
  have g3 : S3[S2.length]? = some (.lst (pcs W1)) := List.getElem?_concat_length ..
  have g4 : S4[S3.length]? = some (.lst (pcs W2)) := List.getElem?_concat_length ..
  have l4e : S4.length = S3.length + 1 := List.length_append ..
  have l4 : S3.length < S4.length := by omega
  have g5 : S5[S3.length]? = some (.lst (pcs W3)) := List.getElem?_set_self l4
  have l3 : S3.length = S2.length + 1 := List.length_append ..
  have d5 : DiceAt (k + 2) S5 n := ((d2.push _).push _).set (by omega) _
  have tW : ∀ w ∈ W4, Tx w := by
    intro w hw
    have c : w = l.take j ++ q ++ l.drop j ∨ w = l.take j ++ l.drop (j + 1) ∨ w = l.take j ++ q ++ l.drop (j + 1) ∨ w = l.take j ++ ((l.drop j).take 1 ++ (l.drop j).take 1) ++ l.drop (j + 1) ∨ w = l.take j ∨ w = l.take j ++ (l.drop (j + 1)).take 1 ++ (l.drop j).take 1 ++ l.drop (j + 2) ∨ w = l ++ [32] ∨ w = [32] ++ l := by
      simpa [W4, W3, W2, W1] using hw
    have sp : TB 1 1 [32] := TB.short (by decide) (by decide)
    rcases c with rfl | rfl | rfl | rfl | rfl | rfl | rfl | rfl
    · exact ((tT.app tq).app (tD j)).tx (by decide) (by decide)
    · exact (tT.app (tD _)).tx (by decide) (by decide)
    · exact ((tT.app tq).app (tD _)).tx (by decide) (by decide)
    · exact ((tT.app ((tM _).app (tM _))).app (tD _)).tx (by decide) (by decide)
    · exact tT.tx (by decide) (by decide)
    · exact (((tT.app (tM _)).app (tM _)).app (tD _)).tx (by decide) (by decide)
    · exact (t.app sp).tx (by decide) (by decide)
    · exact (sp.app t).tx (by decide) (by decide)
  obtain ⟨x, S6, e6, hx6, d6, s6⟩ := pick (l := pcs W4) d5 (by omega) (List.cons_ne_nil _ _) (by show (pcs W4).length < _; rw [List.length_map]; show 8 < _; decide)
  obtain ⟨w, hw, rfl⟩ := List.mem_map.mp hx6
  refine ⟨w, S6, stF_rt ?_, tW w hw, d6, ?_⟩
  · show b__law_bent [some (.ref n), some (.d (.str (mkS l))), none, none, none, none] S = _
    unfold b__law_bent
    refine (seq_nx (en1 := [some (.ref n), some (.d (.str (mkS l))), none, none, some (.d (.int (j : Int))), some (.d (.lst sgsD))]) (s1 := S1) ?_).trans ?_
    · refine par2_ok (aCons_ok (x := .d (.int (j : Int))) (S1 := S1) ?_ (aCons_ok (sg_e _ S1) (aNil_ok _ _)))
      exact eFn_ok (aCons_ok rfl (aCons_ok (eBin_ok (eCB_ok (aCons_ok rfl (aNil_ok _ _)) (lenV_str hl4)) rfl rfl) (aNil_ok _ _))) rfl rfl e1
    refine (seq_nx (en1 := E2) (s1 := S2) ?_).trans ?_
    · simp only [sSet, eFn, aCons, aNil, eVar, List.getElem?_cons_zero, List.getElem?_cons_succ, bind_ok, List.length_cons, List.length_nil, noXc, Nat.reduceAdd, and_self, if_true, e2, then_ok]
      rfl
    have v2 : ∀ S, eVar 2 E2 S = .ok (.d (.str (mkS q))) S := fun _ => rfl
    refine (seq_nx (en1 := E3) (s1 := S3) ?_).trans ?_
    · have bt := b_to (en := E2) (l := l) (j := j) rfl rfl hl4
      have bf := b_from (en := E2) (l := l) (j := j) rfl rfl hl4
      have bg := fun S => b_from1 (en := E2) (l := l) (j := j) rfl rfl hl4 S 1
      have z : ∀ a b, a.length + b.length ≤ 16000 → ∀ S, addV S (.d (.str (mkS a))) (.d (.str (mkS b))) = some (.d (.str (mkS (a ++ b)))) := fun a b h S => addS S h
      have lj := lD j
      have lj1 := lD (j + 1)
      have p1 : ∀ S, eBin addV (eBin addV (eSl (eVar 1) oNone (oSome (eVar 4))) (eVar 2)) (eSl (eVar 1) (oSome (eVar 4)) oNone) E2 S = .ok (.d (.str (mkS (l.take j ++ q ++ l.drop j)))) S := fun S => by
        simp only [eBin, bt, bf, v2, bind_ok, z (l.take j) q (by omega), ofO]
        rw [z (l.take j ++ q) (l.drop j) (by rw [List.length_append]; omega)]
      have p2 : ∀ S, eBin addV (eSl (eVar 1) oNone (oSome (eVar 4))) (eSl (eVar 1) (oSome (eBin addV (eVar 4) (eC (.int 1)))) oNone) E2 S = .ok (.d (.str (mkS (l.take j ++ l.drop (j + 1))))) S := fun S => by
        have := bg S
        show ((eSl (eVar 1) oNone (oSome (eVar 4))) E2 S).bind _ = _
        rw [bt]
        show ((eSl (eVar 1) (oSome (eBin addV (eVar 4) (eC (.int 1)))) oNone) E2 S).bind _ = _
        rw [show (eSl (eVar 1) (oSome (eBin addV (eVar 4) (eC (.int 1)))) oNone) E2 S = _ from this]
        show ofO _ S = _
        rw [z (l.take j) (l.drop (j + 1)) (by omega)]
        rfl
      have p3 : ∀ S, eBin addV (eBin addV (eSl (eVar 1) oNone (oSome (eVar 4))) (eVar 2)) (eSl (eVar 1) (oSome (eBin addV (eVar 4) (eC (.int 1)))) oNone) E2 S = .ok (.d (.str (mkS (l.take j ++ q ++ l.drop (j + 1))))) S := fun S => by
        have a : eBin addV (eSl (eVar 1) oNone (oSome (eVar 4))) (eVar 2) E2 S = .ok (.d (.str (mkS (l.take j ++ q)))) S := by
          simp only [eBin, bt, v2, bind_ok, z (l.take j) q (by omega), ofO]
        have := bg S
        show (eBin addV (eSl (eVar 1) oNone (oSome (eVar 4))) (eVar 2) E2 S).bind _ = _
        rw [a]
        show ((eSl (eVar 1) (oSome (eBin addV (eVar 4) (eC (.int 1)))) oNone) E2 S).bind _ = _
        rw [show (eSl (eVar 1) (oSome (eBin addV (eVar 4) (eC (.int 1)))) oNone) E2 S = _ from this]
        show ofO _ S = _
        rw [z (l.take j ++ q) (l.drop (j + 1)) (by rw [List.length_append]; omega)]
        rfl
      simp only [sSet, eLstM, aCons, aNil, p1, p2, p3, bind_ok, frz]
      rfl
    have lj := lD j
    have lj1 := lD (j + 1)
    have lj2 := lD (j + 2)
    have lm := lM j
    have lm1 := lM (j + 1)
    have z16 : sizeLine = 16777216 := rfl
    have ap : ∀ {F G : ME} {en : En} {S : Sto} {a b : List Nat}, F en S = .ok (.d (.str (mkS a))) S → G en S = .ok (.d (.str (mkS b))) S → a.length + b.length ≤ 16000 → eBin addV F G en S = .ok (.d (.str (mkS (a ++ b)))) S := fun h k hl => eBin_ok h k (addS _ hl)
    refine (seq_nx (en1 := E4) (s1 := S4) ?_).trans ?_
    · refine set_ok (x := .ref S3.length) ?_
      refine catM_ok (x := .ref S2.length) (S1 := S3) (i := pcs W1) (j := pcs [l.take j ++ ((l.drop j).take 1 ++ (l.drop j).take 1) ++ l.drop (j + 1), l.take j]) rfl (lst_ok (aCons_ok (x := .d (.str (mkS (l.take j ++ ((l.drop j).take 1 ++ (l.drop j).take 1) ++ l.drop (j + 1))))) (S1 := S3) ?_ (aCons_ok (b_to (en := E3) rfl rfl hl4 S3) (aNil_ok _ _))) rfl (by show 2 ≤ _; omega)) (asL_ref g3) rfl (by show 3 + 2 ≤ _; omega)
      refine ap (ap (b_to (en := E3) rfl rfl hl4 S3) (eBin_ok (b_mid1 (en := E3) rfl rfl hl4 S3) rfl (twice _ (by omega))) (by rw [List.length_append]; omega)) (b_from1 (en := E3) rfl rfl hl4 S3 1) (by rw [List.length_append, List.length_append]; omega)
    refine (seq_nx (en1 := E4) (s1 := S5) ?_).trans ?_
    · refine drop_ok (app_ok (m := S3.length) (l := pcs W2) rfl g4 (aCons_ok (ap (ap (ap (b_to (en := E4) rfl rfl hl4 S4) (b_mid2 (en := E4) rfl rfl hl4 S4) (by omega)) (b_mid1 (en := E4) rfl rfl hl4 S4) (by rw [List.length_append]; omega)) (b_from1 (en := E4) rfl rfl hl4 S4 2) (by rw [List.length_append, List.length_append]; omega)) (aNil_ok _ _)) (by show 5 < _; omega))
    refine ret_ok (eFn_ok (aCons_ok rfl (aCons_ok (eBin_ok rfl (lst_ok (aCons_ok (ap rfl (by rw [← l_sp]; rfl) (by show _ + 1 ≤ _; omega)) (aCons_ok (ap (by rw [← l_sp]; rfl) rfl (by show 1 + _ ≤ _; omega)) (aNil_ok _ _))) rfl (by show 2 ≤ _; omega)) (addL (by intro z; exact Vl.noConfusion) (by intro z; exact Vl.noConfusion) (by intro z; exact Vl.noConfusion) (asL_ref g5) rfl (by show 6 + 2 ≤ _; omega))) (aNil_ok _ _))) rfl rfl e6)
  · have s5 : Stp n S2 S5 := ⟨by show _ ≤ (S4.set _ _).length; rw [List.length_set]; omega, fun m _ hm => by
      show (S4.set _ _)[m]? = _
      rw [List.getElem?_set_ne (by omega)]
      show (S3 ++ [_])[m]? = _
      rw [List.getElem?_append_left (by omega)]
      exact List.getElem?_append_left hm⟩
    exact ((s1.trans s2).trans s5).trans s6
end L81
set_option Elab.async false
set_option linter.all false
set_option maxRecDepth 100000
set_option maxHeartbeats 1000000
namespace L81
open PySem PySem.Spec PyProof.Rows L2 Sm TL

/-! ## values and their texts -/
/-- a drawn number -/
structure Nb (p : Int × Int) : Prop where
  v : Vd p.1 p.2
  a : p.1.natAbs < 10 ^ 62
  b : p.2.natAbs < 10 ^ 62
theorem p62 : (10 : Nat) ^ 62 ≤ 10 ^ 300 := Nat.pow_le_pow_right (by decide) (by decide)
theorem Nb.sa {p : Int × Int} (h : Nb p) : Sl p.1 := Nat.lt_of_lt_of_le h.a p62
theorem Nb.sb {p : Int × Int} (h : Nb p) : Sl p.2 := Nat.lt_of_lt_of_le h.b p62
def tN (p : Int × Int) : List Nat := numTL p.1 p.2
def tR (r : List (Int × Int)) : List Nat := if r = [] then noneL else joinL [32] (r.map tN)
def tT (t : List (List (Int × Int))) : List Nat := joinL [44, 32] (t.map tR)
theorem int_tb {i : Int} (h : i.natAbs < 10 ^ 62) : TB 63 62 (intL i) := by
  have h1 := numL_len (n := i.natAbs) (k := 62) (by decide) h
  have r : RunB 62 (numL i.natAbs) := fun u hu _ => Nat.le_trans hu.length_le h1
  refine ⟨intL_lt i, ?_, ?_⟩
  · unfold intL
    split
    · rw [List.length_cons]; omega
    · omega
  · unfold intL
    split
    · exact RunB.cons rfl r
    · exact r
theorem tN_tb {p : Int × Int} (h : Nb p) : TB 127 62 (tN p) := by
  have a := int_tb h.a
  have b := int_tb h.b
  unfold tN numTL
  split
  · rw [List.append_nil]; exact a.mono (by decide) (by decide)
  · refine ⟨fun c hc => ?_, by rw [List.length_append, List.length_cons]; have := a.len; have := b.len; omega, RunB.sep rfl a.run b.run⟩
    rcases List.mem_append.mp hc with h | h
    · exact a.lt c h
    · rcases List.mem_cons.mp h with h | h
      · omega
      · exact b.lt c h
theorem join_tb {n m s : Nat} {P : List Nat} (hs : dig s = false) (hP : ∀ c ∈ s :: P, c < 256 ∧ dig c = false) : ∀ {ps : List (List Nat)}, (∀ p ∈ ps, TB m n p) → TB (ps.length * (m + (P.length + 1))) n (joinL (s :: P) ps)
  | [], _ => ⟨fun c hc => absurd hc List.not_mem_nil, Nat.zero_le _, fun u hu _ => by rw [List.infix_nil.mp hu]; exact Nat.zero_le _⟩
  | [p], h => (h p (List.mem_cons_self ..)).mono (by simp) (Nat.le_refl _)
  | p :: q :: r, h => by
    have h1 := h p (List.mem_cons_self ..)
    have ih := join_tb (P := P) hs hP (ps := q :: r) fun x hx => h x (List.mem_cons_of_mem _ hx)
    have tail : ∀ (Z : List Nat), (∀ c ∈ Z, dig c = false) → RunB n (Z ++ joinL (s :: P) (q :: r)) := by
      intro Z
      induction Z with
      | nil => intro _; exact ih.run
      | cons z Z ihz => intro hz; exact RunB.cons (hz z (List.mem_cons_self ..)) (ihz fun c hc => hz c (List.mem_cons_of_mem _ hc))
    show TB _ _ (p ++ (s :: P ++ joinL (s :: P) (q :: r)))
    refine ⟨fun c hc => ?_, ?_, RunB.sep hs h1.run (tail P fun c hc => (hP c (List.mem_cons_of_mem _ hc)).2)⟩
    · rcases List.mem_append.mp hc with h | h
      · exact h1.lt c h
      · rcases List.mem_append.mp h with h | h
        · exact (hP c h).1
        · exact ih.lt c h
    · have := h1.len
      have := ih.len
      rw [List.length_append, List.length_append]
      simp only [List.length_cons, Nat.succ_mul, Nat.add_mul] at *
      omega
theorem tR_tb {r : List (Int × Int)} (h : ∀ p ∈ r, Nb p) (hl : r.length ≤ 3) : TB 400 62 (tR r) := by
  unfold tR
  split
  · exact (TB.short (k := 4) (by decide) (by decide)).mono (by decide) (by decide)
  · refine (join_tb (m := 127) (n := 62) (P := []) rfl (by decide) fun q hq => ?_).mono ?_ (Nat.le_refl _)
    · obtain ⟨p, hp, rfl⟩ := List.mem_map.mp hq
      exact tN_tb (h p hp)
    · rw [List.length_map, List.length_nil]
      omega
theorem tT_tb {t : List (List (Int × Int))} (h : ∀ r ∈ t, (∀ p ∈ r, Nb p) ∧ r.length ≤ 3) (hl : t.length ≤ 4) : TB 1700 62 (tT t) := by
  refine (join_tb (m := 400) (n := 62) (P := [32]) rfl (by decide) fun q hq => ?_).mono ?_ (Nat.le_refl _)
  · obtain ⟨p, hp, rfl⟩ := List.mem_map.mp hq
    exact tR_tb (h p hp).1 (h p hp).2
  · rw [List.length_map]
    simp only [List.length_cons, List.length_nil]
    omega
theorem strs_mk : ∀ ps : List (List Nat), strsOf (ps.map fun q => D.str (mkS q)) = some (ps.map mkS)
  | [] => rfl
  | p :: ps => by
    show (match strOf (.str (mkS p)), strsOf (ps.map fun q => D.str (mkS q)) with | some x, some l => some (x :: l) | _, _ => none) = _
    rw [strs_mk ps]
    rfl
theorem joinV_mk {S : Sto} {P : List Nat} {ps : List (List Nat)} (h : ∀ p ∈ ps, p.length ≤ 5000) (hp : ps.length ≤ 100) (hP : P.length ≤ 10) : joinV S (.d (.str (mkS P))) (.d (.lst (ps.map fun q => .str (mkS q)))) = some (.d (.str (mkS (joinL P ps)))) := by
  have s : ((ps.map mkS).map (·.length)).sum ≤ 5000 * ps.length := by
    have e := sum_le (fun q : List Nat => (mkS q).length) (fun _ => 5000) ps fun q hq => by rw [len_mk]; exact h q hq
    rw [List.map_map]
    refine Nat.le_trans e ?_
    rw [List.map_const', List.sum_replicate_nat]
    omega
  unfold joinV
  rw [show asSeq S (.d (.lst (ps.map fun q => D.str (mkS q)))) = some (ps.map fun q => D.str (mkS q)) from rfl]
  simp only [strs_mk]
  have b : ((ps.map mkS).map (·.length)).sum + (ps.map mkS).length * (mkS P).length ≤ 16777216 := by
    rw [List.length_map, len_mk]
    have : ps.length * P.length ≤ 100 * 10 := Nat.mul_le_mul hp hP
    omega
  rw [if_pos b]
  have e : Txt.join (mkS P) (ps.map mkS) = mkS (joinL P ps) := by
    rw [join_eq]
    apply ext_tl
    rw [tl_join, List.map_map]
    show joinL P (ps.map fun x => x) = _
    rw [List.map_id']
  rw [e]
/-! ### read back -/
theorem rdN_back {p : Int × Int} (h : Nb p) : rdN (tN p) = some p := ((rdN_of ((tN_tb h).tx (by decide) (by decide))).2.2 p.1 p.2).mpr ⟨h.v, rfl⟩
theorem tN_free {p : Int × Int} {s : Nat} (h : s ≠ 45 ∧ s ≠ 47 ∧ (s < 48 ∨ 57 < s)) : s ∉ tN p := by
  have fi : ∀ i : Int, s ∉ intL i := fun i hm => by
    unfold intL at hm
    split at hm
    · rcases List.mem_cons.mp hm with e | hm
      · exact h.1 e
      · exact numL_free h.2.2 hm
    · exact numL_free h.2.2 hm
  intro hm
  unfold tN numTL at hm
  rcases List.mem_append.mp hm with hm | hm
  · exact fi _ hm
  · split at hm
    · exact absurd hm List.not_mem_nil
    · rcases List.mem_cons.mp hm with e | hm
      · exact h.2.1 e
      · exact fi _ hm
theorem seqO_map {α β : Type} (f : β → Option α) (g : β → α) : ∀ l : List β, (∀ x ∈ l, f x = some (g x)) → seqO (l.map f) = some (l.map g)
  | [], _ => rfl
  | x :: l, h => by
    have h1 := h x (List.mem_cons_self ..)
    have h2 := seqO_map f g l fun y hy => h y (List.mem_cons_of_mem _ hy)
    rw [List.map_cons, List.map_cons, h1]
    unfold seqO
    rw [h2]
theorem tR_free {r : List (Int × Int)} : 44 ∉ tR r := by
  intro h
  unfold tR at h
  split at h
  · exact absurd h (by decide)
  · rcases joinL_mem h with h | ⟨q, hq, h⟩
    · exact absurd h (by decide)
    · obtain ⟨p, _, rfl⟩ := List.mem_map.mp hq
      exact tN_free (by omega) h
theorem rdR_back {r : List (Int × Int)} (h : ∀ p ∈ r, Nb p) : rdR (tR r) = some r := by
  unfold tR
  by_cases e : r = []
  · rw [if_pos e, e]
    exact if_pos rfl
  · rw [if_neg e]
    have ne : joinL [32] (r.map tN) ≠ noneL := fun z => by
      have m : 110 ∈ joinL [32] (r.map tN) := by rw [z]; exact List.mem_cons_self ..
      rcases joinL_mem m with h | ⟨q, hq, h⟩
      · exact absurd h (by decide)
      · obtain ⟨p, _, rfl⟩ := List.mem_map.mp hq
        exact tN_free (by omega) h
    unfold rdR
    rw [if_neg ne]
    have c : cutL [32] (joinL [32] (r.map tN)) = r.map tN := spl_join (by simpa using e) fun q hq => by
      obtain ⟨p, _, rfl⟩ := List.mem_map.mp hq
      exact tN_free (by omega)
    rw [c, List.map_map]
    have := seqO_map (fun p => rdN (tN p)) (fun p => p) r fun p hp => rdN_back (h p hp)
    rw [List.map_id'] at this
    exact this
theorem rdT_back {t : List (List (Int × Int))} (ht : t ≠ []) (h : ∀ r ∈ t, ∀ p ∈ r, Nb p) : rdT (tT t) = some t := by
  unfold rdT tT
  have c : cutL [44, 32] (joinL [44, 32] (t.map tR)) = t.map tR := spl_join (by simpa using ht) fun q hq => by
    obtain ⟨p, _, rfl⟩ := List.mem_map.mp hq
    exact tR_free
  rw [c, List.map_map]
  have := seqO_map (fun r => rdR (tR r)) (fun r => r) t fun r hr => rdR_back (h r hr)
  rw [List.map_id'] at this
  exact this
end L81
set_option Elab.async false
set_option linter.all false
set_option maxRecDepth 100000
set_option maxHeartbeats 1000000
namespace L81
open PySem PySem.Spec PyProof.Rows L2 Sm TL

theorem lc_tup {α : Type} {g h : α → D} {M : MF} (l : List α) (hm : ∀ x ∈ l, ∀ S, M [.d (g x)] S = .ok (.d (h x)) S) (hl : l.length ≤ 1000) (S : Sto) :
    eLc [1] (iV (eVar 0)) (gtName 1) eYes (eFn 1 M (aCons (eVar 1) aNil)) [some (.d (.tup (l.map g))), none] S = .ok (.d (.lst (l.map h))) S := by
  have z : sizeLine = 16777216 := rfl
  have e := lcGo_map (g := gtName 1) (fe := eFn 1 M (aCons (eVar 1) aNil)) (en := [some (.d (.tup (l.map g))), none]) g h l S (fun x hx => ⟨[some (.d (.tup (l.map g))), some (.d (g x))], rfl, eFn_ok (aCons_ok rfl (aNil_ok _ _)) rfl rfl (hm x hx S)⟩) (by omega)
  show (lcGo _ _ _ _ _ _ _).bind _ = _
  exact (congrArg (fun o => Out.bind o _) e)
theorem eq_empty {α : Type} {g : α → D} {p : α → PyData} {k : Nat} (pg : Pg g p k) (hk : k < 60) (n : Bool) (S : Sto) (l : List α) : eqV n S (.d (.tup (l.map g))) (.d (.tup [])) = some (.d (.bl (n ^^ l.isEmpty))) := by
  rw [eqV_d (pg.tup.py l) (e := .tuple []) rfl ((pg.tup.gd l).shp (by omega)) rfl]
  cases l with
  | nil => rfl
  | cons x l => rfl
theorem law_row_text {r : List (Int × Int)} (h : ∀ p ∈ r, Nb p) (hl : r.length ≤ 3) (S : Sto) : M__law_row_text [.d (gR r)] S = .ok (.d (.str (mkS (tR r)))) S := by
  refine pu_rt (ds := [gR r]) (v := .d (.str (mkS (tR r)))) (S' := []) rfl ?_ rfl
  show b__law_row_text [some (.d (gR r)), none] [] = _
  unfold b__law_row_text
  refine ret_ok ?_
  have c : eTst (eBin (eqV true) (eVar 0) (eTup aNil)) [some (.d (gR r)), none] [] = .ok (!r.isEmpty) [] := by
    have e : eBin (eqV true) (eVar 0) (eTup aNil) [some (.d (gR r)), none] [] = .ok (.d (.bl (!r.isEmpty))) [] := eBin_ok rfl rfl (by
      have := eq_empty pgN (by decide) true [] r
      rw [Bool.true_xor] at this
      exact this)
    unfold eTst
    rw [e]
    rfl
  have lc := lc_tup (g := gN) (h := fun p => .str (mkS (tN p))) (M := M__law_number_text) r (fun p hp S => by
    have := law_number_text (h p hp).sa (h p hp).sb S
    rw [numT_mk] at this
    exact this) (by omega) []
  unfold eIf
  rw [c]
  unfold tR
  cases r with
  | nil =>
    show Out.ok (Vl.d (.str (Str.ofString "none"))) [] = _
    rw [l_no]
    rfl
  | cons p r =>
    rw [if_neg (List.cons_ne_nil _ _)]
    show eM1 joinV (eC (.str " ")) _ [some (.d (gR (p :: r))), none] [] = _
    unfold eM1
    have lc : eLc [1] (iV (eVar 0)) (gtName 1) eYes (eFn 1 M__law_number_text (aCons (eVar 1) aNil)) [some (.d (gR (p :: r))), none] [] = _ := lc
    have j := joinV_mk (S := []) (P := [32]) (ps := (p :: r).map tN) (fun q hq => by
      obtain ⟨x, hx, rfl⟩ := List.mem_map.mp hq
      have := (tN_tb (h x hx)).len
      omega) (by rw [List.length_map]; omega) (by decide)
    rw [List.map_map] at j
    simp only [eC, bind_ok, isS, if_true, l_sp]
    rw [lc]
    simp only [bind_ok]
    rw [show ((p :: r).map fun p => D.str (mkS (tN p))) = (p :: r).map ((fun q => D.str (mkS q)) ∘ tN) from rfl, j]
    rfl
theorem row_text {r : List (Int × Int)} (h : ∀ p ∈ r, Nb p) (hl : r.length ≤ 3) (S : Sto) : M_row_text [.d (gR r)] S = .ok (.d (.str (mkS (tR r)))) S := by
  refine pu_rt (ds := [gR r]) (v := .d (.str (mkS (tR r)))) (S' := []) rfl ?_ rfl
  show b_row_text [some (.d (gR r)), none] [] = _
  unfold b_row_text
  refine ret_ok ?_
  have c : eTst (eBin (eqV false) (eVar 0) (eTup aNil)) [some (.d (gR r)), none] [] = .ok (r.isEmpty) [] := by
    have e : eBin (eqV false) (eVar 0) (eTup aNil) [some (.d (gR r)), none] [] = .ok (.d (.bl (r.isEmpty))) [] := eBin_ok rfl rfl (by
      have := eq_empty pgN (by decide) false [] r
      rw [Bool.false_xor] at this
      exact this)
    unfold eTst
    rw [e]
    rfl
  have lc := lc_tup (g := gN) (h := fun p => .str (mkS (tN p))) (M := M_number_text) r (fun p hp S => by
    have := number_text (h p hp).sa (h p hp).sb S
    rw [numT_mk] at this
    exact this) (by omega) []
  unfold eIf
  rw [c]
  unfold tR
  cases r with
  | nil =>
    show Out.ok (Vl.d (.str (Str.ofString "none"))) [] = _
    rw [l_no]
    rfl
  | cons p r =>
    rw [if_neg (List.cons_ne_nil _ _)]
    show eM1 joinV (eC (.str " ")) _ [some (.d (gR (p :: r))), none] [] = _
    unfold eM1
    have lc : eLc [1] (iV (eVar 0)) (gtName 1) eYes (eFn 1 M_number_text (aCons (eVar 1) aNil)) [some (.d (gR (p :: r))), none] [] = _ := lc
    have j := joinV_mk (S := []) (P := [32]) (ps := (p :: r).map tN) (fun q hq => by
      obtain ⟨x, hx, rfl⟩ := List.mem_map.mp hq
      have := (tN_tb (h x hx)).len
      omega) (by rw [List.length_map]; omega) (by decide)
    rw [List.map_map] at j
    simp only [eC, bind_ok, isS, if_true, l_sp]
    rw [lc]
    simp only [bind_ok]
    rw [show ((p :: r).map fun p => D.str (mkS (tN p))) = (p :: r).map ((fun q => D.str (mkS q)) ∘ tN) from rfl, j]
    rfl
theorem law_telling_text {t : List (List (Int × Int))} (h : ∀ r ∈ t, (∀ p ∈ r, Nb p) ∧ r.length ≤ 3) (hl : t.length ≤ 4) (S : Sto) : M__law_telling_text [.d (gT t)] S = .ok (.d (.str (mkS (tT t)))) S := by
  refine pu_rt (ds := [gT t]) (v := .d (.str (mkS (tT t)))) (S' := []) rfl ?_ rfl
  show b__law_telling_text [some (.d (gT t)), none] [] = _
  unfold b__law_telling_text
  refine ret_ok ?_
  have lc : eLc [1] (iV (eVar 0)) (gtName 1) eYes (eFn 1 M__law_row_text (aCons (eVar 1) aNil)) [some (.d (gT t)), none] [] = _ := lc_tup (g := gR) (h := fun p => .str (mkS (tR p))) (M := M__law_row_text) t (fun r hr S => law_row_text (h r hr).1 (h r hr).2 S) (by omega) []
  have j := joinV_mk (S := []) (P := [44, 32]) (ps := t.map tR) (fun q hq => by
    obtain ⟨x, hx, rfl⟩ := List.mem_map.mp hq
    have := (tR_tb (h x hx).1 (h x hx).2).len
    omega) (by rw [List.length_map]; omega) (by decide)
  rw [List.map_map] at j
  unfold eM1
  simp only [eC, bind_ok, isS, if_true, l_co]
  rw [lc]
  simp only [bind_ok]
  rw [show (t.map fun p => D.str (mkS (tR p))) = t.map ((fun q => D.str (mkS q)) ∘ tR) from rfl, j]
  rfl
theorem telling_text {t : List (List (Int × Int))} (h : ∀ r ∈ t, (∀ p ∈ r, Nb p) ∧ r.length ≤ 3) (hl : t.length ≤ 4) (S : Sto) : M_telling_text [.d (gT t)] S = .ok (.d (.str (mkS (tT t)))) S := by
  refine pu_rt (ds := [gT t]) (v := .d (.str (mkS (tT t)))) (S' := []) rfl ?_ rfl
  show b_telling_text [some (.d (gT t)), none] [] = _
  unfold b_telling_text
  refine ret_ok ?_
  have lc : eLc [1] (iV (eVar 0)) (gtName 1) eYes (eFn 1 M_row_text (aCons (eVar 1) aNil)) [some (.d (gT t)), none] [] = _ := lc_tup (g := gR) (h := fun p => .str (mkS (tR p))) (M := M_row_text) t (fun r hr S => row_text (h r hr).1 (h r hr).2 S) (by omega) []
  have j := joinV_mk (S := []) (P := [44, 32]) (ps := t.map tR) (fun q hq => by
    obtain ⟨x, hx, rfl⟩ := List.mem_map.mp hq
    have := (tR_tb (h x hx).1 (h x hx).2).len
    omega) (by rw [List.length_map]; omega) (by decide)
  rw [List.map_map] at j
  unfold eM1
  simp only [eC, bind_ok, isS, if_true, l_co]
  rw [lc]
  simp only [bind_ok]
  rw [show (t.map fun p => D.str (mkS (tR p))) = t.map ((fun q => D.str (mkS q)) ∘ tR) from rfl, j]
  rfl
end L81
set_option Elab.async false
set_option linter.all false
set_option maxRecDepth 100000
set_option maxHeartbeats 1000000
namespace L81
open PySem PySem.Spec PyProof.Rows L2 Sm TL

theorem big_not {i : Int} (h : Sl i) : decide (c_MOST_WRITTEN ≤ (if i < 0 then -i else i)) = false := by
  rw [abs_if]
  refine decide_eq_false ?_
  unfold c_MOST_WRITTEN
  have h1 : (i.natAbs : Nat) < 10 ^ 4000 := Nat.lt_of_lt_of_le h (Nat.pow_le_pow_right (by decide) (by decide))
  have e : ((10 : Int) ^ 4000) = ((10 ^ 4000 : Nat) : Int) := by
    first
      | exact (Int.natCast_pow 10 4000).symm
      | simp
  rw [e]
  intro z
  have := Int.ofNat_le.mp z
  omega
theorem pos_not {i : Int} (h : Sl i) (h0 : 1 ≤ i) : decide (c_MOST_WRITTEN ≤ i) = false := by
  have := big_not h
  rw [if_neg (by omega)] at this
  exact this
/-- numbers for which a value is written -/
def Nbs (r : List (Int × Int)) : Prop := ∀ p ∈ r, Nb p
theorem size_one {p : Int × Int} (h : Nb p) {a b : Option Vl} (S : Sto) :
    (eOrV (eBin (gIb fun i j => decide (j ≤ i)) (eCB absV' (aCons (eVar 2) aNil)) (eC (.int c_MOST_WRITTEN))) (eBin (gIb fun i j => decide (j ≤ i)) (eVar 3) (eC (.int c_MOST_WRITTEN)))) [a, b, some (.d (.int p.1)), some (.d (.int p.2))] S = .ok (.d (.bl false)) S := by
  have h1 := big_not h.sa
  have h2 := pos_not h.sb h.v.1
  have e1 : (eBin (gIb fun i j => decide (j ≤ i)) (eCB absV' (aCons (eVar 2) aNil)) (eC (.int c_MOST_WRITTEN))) [a, b, some (.d (.int p.1)), some (.d (.int p.2))] S = .ok (.d (.bl false)) S := eBin_ok (eCB_ok (aCons_ok rfl (aNil_ok _ _)) rfl) rfl (by
    show some (Vl.d (.bl (decide (c_MOST_WRITTEN ≤ (if p.1 < 0 then -p.1 else p.1))))) = _
    rw [h1])
  have e2 : (eBin (gIb fun i j => decide (j ≤ i)) (eVar 3) (eC (.int c_MOST_WRITTEN))) [a, b, some (.d (.int p.1)), some (.d (.int p.2))] S = .ok (.d (.bl false)) S := eBin_ok rfl rfl (by
    show some (Vl.d (.bl (decide (c_MOST_WRITTEN ≤ p.2)))) = _
    rw [h2])
  unfold eOrV
  rw [e1]
  exact e2
theorem bls_f : ∀ l : List (Int × Int), ((l.map fun _ => false).any id) = false
  | [] => rfl
  | _ :: l => by rw [List.map_cons, List.any_cons, bls_f l]; rfl
theorem size_row {r : List (Int × Int)} (h : Nbs r) (hl : r.length ≤ 1000) (a : Option Vl) (S : Sto) :
    eTst (eCB (anyV true) (aCons (eLc [2, 3] (iV (eVar 1)) (gtTup 2 (gtCons (gtName 2) (gtCons (gtName 3) gtNil))) eYes (eOrV (eBin (gIb fun i j => decide (j ≤ i)) (eCB absV' (aCons (eVar 2) aNil)) (eC (.int c_MOST_WRITTEN))) (eBin (gIb fun i j => decide (j ≤ i)) (eVar 3) (eC (.int c_MOST_WRITTEN))))) aNil)) [a, some (.d (gR r)), none, none] S = .ok false S := by
  have z : sizeLine = 16777216 := rfl
  have e := lcGo_map (g := gtTup 2 (gtCons (gtName 2) (gtCons (gtName 3) gtNil))) (fe := (eOrV (eBin (gIb fun i j => decide (j ≤ i)) (eCB absV' (aCons (eVar 2) aNil)) (eC (.int c_MOST_WRITTEN))) (eBin (gIb fun i j => decide (j ≤ i)) (eVar 3) (eC (.int c_MOST_WRITTEN))))) (en := [a, some (.d (gR r)), none, none]) gN (fun _ => .bl false) r S (fun p hp => ⟨[a, some (.d (gR r)), some (.d (.int p.1)), some (.d (.int p.2))], rfl, size_one (h p hp) S⟩) (by omega)
  have e2 : eLc [2, 3] (iV (eVar 1)) (gtTup 2 (gtCons (gtName 2) (gtCons (gtName 3) gtNil))) eYes (eOrV (eBin (gIb fun i j => decide (j ≤ i)) (eCB absV' (aCons (eVar 2) aNil)) (eC (.int c_MOST_WRITTEN))) (eBin (gIb fun i j => decide (j ≤ i)) (eVar 3) (eC (.int c_MOST_WRITTEN)))) [a, some (.d (gR r)), none, none] S = .ok (.d (.lst (r.map fun _ => .bl false))) S := by
    show (lcGo _ _ _ _ _ _ _).bind _ = _
    exact (congrArg (fun o => Out.bind o _) e)
  have e3 : anyV true S [.d (.lst (r.map fun _ => .bl false))] = some (.d (.bl false)) := by
    show (match bls (r.map fun _ => .bl false) with | some bs => some (Vl.d (.bl (if true = true then bs.any id else bs.all id))) | none => none) = _
    rw [bls_map (fun _ => false) r]
    simp only [if_true]
    rw [bls_f]
  unfold eTst
  rw [eCB_ok (aCons_ok e2 (aNil_ok _ _)) e3]
  rfl
/-- a for-loop whose body changes no more than its env -/
theorem fo_inv {g : GT} {body : MS} (I : En → Prop) {S : Sto} : ∀ (ds : List D) (en : En), I en → (∀ d ∈ ds, ∀ en, I en → ∃ en1 en2, g (.d d) S en = some en1 ∧ body en1 S = .nx en2 S ∧ I en2) → ∃ en', foGo g body ds en S = .nx en' S ∧ I en'
  | [], en, h, _ => ⟨en, rfl, h⟩
  | d :: ds, en, h, k => by
    obtain ⟨en1, en2, h1, h2, h3⟩ := k d (List.mem_cons_self ..) en h
    obtain ⟨en', e1, e2⟩ := fo_inv I ds en2 h3 fun x hx => k x (List.mem_cons_of_mem _ hx)
    refine ⟨en', ?_, e2⟩
    unfold foGo
    simp only [h1, h2]
    exact e1
theorem require_sizes {x : D} {rows : List (List (Int × Int))} (hx : walkV (.d x) = some (rows.map gR)) (h : ∀ r ∈ rows, Nbs r ∧ r.length ≤ 1000) (S : Sto) : M_require_sizes [.d x] S = .ok (.d .non) S := by
  have f := fo_inv (g := gtName 1) (body := sIf (eTst (eCB (anyV true) (aCons (eLc [2, 3] (iV (eVar 1)) (gtTup 2 (gtCons (gtName 2) (gtCons (gtName 3) gtNil))) eYes (eOrV (eBin (gIb fun i j => decide (j ≤ i)) (eCB absV' (aCons (eVar 2) aNil)) (eC (.int c_MOST_WRITTEN))) (eBin (gIb fun i j => decide (j ≤ i)) (eVar 3) (eC (.int c_MOST_WRITTEN))))) aNil))) sNo sNx) (fun en => ∃ y, en = [some (.d x), y, none, none]) (S := []) (rows.map gR) [some (.d x), none, none, none] ⟨_, rfl⟩ (fun d hd en he => by
    obtain ⟨y, rfl⟩ := he
    obtain ⟨r, hr, rfl⟩ := List.mem_map.mp hd
    refine ⟨[some (.d x), some (.d (gR r)), none, none], [some (.d x), some (.d (gR r)), none, none], rfl, ?_, _, rfl⟩
    unfold sIf
    rw [size_row (h r hr).1 (h r hr).2]
    rfl)
  obtain ⟨en', e, _⟩ := f
  have e2 : b_require_sizes [some (.d x), none, none, none] [] = .nx en' [] := by
    unfold b_require_sizes sFor
    have : iV (eVar 0) [some (.d x), none, none, none] [] = .ok (rows.map gR) [] := by
      simp only [iV, eVar, List.getElem?_cons_zero, bind_ok, hx]
    rw [this]
    exact e
  show puF (puR 4 b_require_sizes) [.d x] S = _
  show (Res.of (retOf (b_require_sizes [some (.d x), none, none, none] []))).out S = _
  rw [e2]
  rfl
end L81
set_option Elab.async false
set_option linter.all false
set_option maxRecDepth 100000
set_option maxHeartbeats 1000000
namespace L81
open PySem PySem.Spec PyProof.Rows L2 Sm TL

theorem and_ok {f g : ME} {en : En} {S S1 S2 : Sto} {v : Vl} (h : f en S = .ok (.d (.bl true)) S1) (k : g en S1 = .ok v S2) : eAndV f g en S = .ok v S2 := by
  unfold eAndV
  rw [h]
  exact k
theorem require_text {l : List Nat} (hl : l.length ≤ 4000) (S : Sto) : M_require_text [.d (.str (mkS l))] S = .ok (.d (.str (mkS l))) S := by
  refine pu_rt (ds := [.str (mkS l)]) (v := .d (.str (mkS l))) (S' := []) rfl ?_ rfl
  show b_require_text [some (.d (.str (mkS l)))] [] = _
  unfold b_require_text
  refine (seq_nx (en1 := [some (.d (.str (mkS l)))]) (s1 := []) ?_).trans rfl
  have e : eBin (gIb fun i j => decide (j < i)) (eCB lenV (aCons (eVar 0) aNil)) (eC (.int 9000)) [some (.d (.str (mkS l)))] [] = .ok (.d (.bl false)) [] := eBin_ok (eCB_ok (aCons_ok rfl (aNil_ok _ _)) (lenV_str hl)) rfl (by
    show some (Vl.d (.bl (decide ((9000 : Int) < (l.length : Nat))))) = _
    rw [decide_eq_false (by omega)])
  unfold sIf eTst
  rw [e]
  rfl
theorem require_number {p : Int × Int} (h : Nb p) (S : Sto) : M_require_number [.d (gN p)] S = .ok (.d .non) S := by
  have e : b_require_number [some (.d (gN p))] [] = .nx [some (.d (gN p))] [] := by
    have e1 : eFn 1 M_is_number (aCons (eVar 0) aNil) [some (.d (gN p))] [] = .ok (.d (.bl true)) [] := eFn_ok (aCons_ok rfl (aNil_ok _ _)) rfl rfl (by
      have := is_number p.1 p.2 []
      rw [decide_eq_true h.v] at this
      exact this)
    unfold b_require_number sIf eNot eTst
    rw [e1]
    rfl
  show (Res.of (retOf (b_require_number [some (.d (gN p))] []))).out S = _
  rw [e]
  rfl
theorem is_plain_row {r : List (Int × Int)} (h : Nbs r) (hl : r.length ≤ 1000) (S : Sto) : M_is_plain_row [.d (.int (r.length : Nat)), .d (gR r)] S = .ok (.d (.bl true)) S := by
  refine pu_rt (ds := [.int (r.length : Nat), gR r]) (v := .d (.bl true)) (S' := []) rfl ?_ rfl
  show b_is_plain_row [some (.d (.int (r.length : Nat))), some (.d (gR r)), none] [] = _
  have z : sizeLine = 16777216 := rfl
  have e := lcGo_map (g := gtName 2) (fe := eFn 1 M_is_number (aCons (eVar 2) aNil)) (en := [some (.d (.int (r.length : Nat))), some (.d (gR r)), none]) gN (fun _ => .bl true) r [] (fun p hp => ⟨[some (.d (.int (r.length : Nat))), some (.d (gR r)), some (.d (gN p))], rfl, eFn_ok (aCons_ok rfl (aNil_ok _ _)) rfl rfl (by
    have := is_number p.1 p.2 []
    rw [decide_eq_true (h p hp).v] at this
    exact this)⟩) (by omega)
  have e2 : eLc [2] (iV (eVar 1)) (gtName 2) eYes (eFn 1 M_is_number (aCons (eVar 2) aNil)) [some (.d (.int (r.length : Nat))), some (.d (gR r)), none] [] = .ok (.d (.lst (r.map fun _ => .bl true))) [] := by
    show (lcGo _ _ _ _ _ _ _).bind _ = _
    exact (congrArg (fun o => Out.bind o _) e)
  have e3 : anyV false [] [.d (.lst (r.map fun _ => .bl true))] = some (.d (.bl true)) := by
    show (match bls (r.map fun _ => .bl true) with | some bs => some (Vl.d (.bl (if false = true then bs.any id else bs.all id))) | none => none) = _
    rw [bls_map (fun _ => true) r]
    have : ∀ l : List (Int × Int), ((l.map fun _ => true).all id) = true := fun l => by
      induction l with
      | nil => rfl
      | cons x l ih => rw [List.map_cons, List.all_cons, ih]; rfl
    simp only [Bool.false_eq_true, if_false]
    rw [this]
  have l1 : eBin (eqV false) (eCB lenV (aCons (eVar 1) aNil)) (eVar 0) [some (.d (.int (r.length : Nat))), some (.d (gR r)), none] [] = .ok (.d (.bl true)) [] := eBin_ok (a := .d (.int (r.length : Nat))) (eCB_ok (aCons_ok rfl (aNil_ok _ _)) (by
    show some (Vl.d (.int ((r.map gN).length : Nat))) = _
    rw [List.length_map])) rfl (by rw [eqV_int]; simp)
  unfold b_is_plain_row
  refine ret_ok ?_
  exact and_ok rfl (and_ok l1 (eCB_ok (aCons_ok e2 (aNil_ok _ _)) e3))
theorem is_any_row {r : List (Int × Int)} (h : Nbs r) (hl : r.length ≤ 1000) (S : Sto) : M_is_any_row [.d (gR r)] S = .ok (.d (.bl true)) S := by
  refine pu_rt (ds := [gR r]) (v := .d (.bl true)) (S' := []) rfl ?_ rfl
  show b_is_any_row [some (.d (gR r))] [] = _
  unfold b_is_any_row
  refine ret_ok ?_
  refine and_ok rfl ?_
  exact eFn_ok (aCons_ok (eCB_ok (r := .d (.int (r.length : Nat))) (aCons_ok rfl (aNil_ok _ _)) (by
    show some (Vl.d (.int ((r.map gN).length : Nat))) = _
    rw [List.length_map])) (aCons_ok rfl (aNil_ok _ _))) rfl rfl (is_plain_row h hl [])
theorem format_number {p : Int × Int} (h : Nb p) (S : Sto) : M_format_number [.d (gN p)] S = .ok (.d (.str (mkS (tN p)))) S := by
  refine pu_rt (ds := [gN p]) (v := .d (.str (mkS (tN p)))) (S' := []) rfl ?_ rfl
  show b_format_number [some (.d (gN p))] [] = _
  unfold b_format_number
  refine (seq_nx (en1 := [some (.d (gN p))]) (s1 := []) (drop_ok (eFn_ok (aCons_ok rfl (aNil_ok _ _)) rfl rfl (require_number h [])))).trans ?_
  refine (seq_nx (en1 := [some (.d (gN p))]) (s1 := []) (drop_ok (eFn_ok (as := [.d (.lst [gR [p]])]) (aCons_ok rfl (aNil_ok _ _)) rfl rfl (require_sizes (rows := [[p]]) rfl (fun r hr => by
    rw [List.mem_singleton.mp hr]
    exact ⟨fun q hq => by rw [List.mem_singleton.mp hq]; exact h, by simp only [List.length_cons, List.length_nil]; omega⟩) [])))).trans ?_
  have nt := number_text h.sa h.sb []
  rw [numT_mk] at nt
  exact ret_ok (eFn_ok (aCons_ok (eFn_ok (aCons_ok rfl (aNil_ok _ _)) rfl rfl nt) (aNil_ok _ _)) rfl rfl (require_text (by have := (tN_tb h).len; show (tN p).length ≤ 4000; omega) []))
theorem not_ok {f : MT} {en : En} {S S1 : Sto} {b : Bool} (h : f en S = .ok b S1) : eNot f en S = .ok (!b) S1 := by
  unfold eNot
  rw [h]
  rfl
theorem tst_ok {f : ME} {en : En} {S S1 : Sto} {b : Bool} (h : f en S = .ok (.d (.bl b)) S1) : eTst f en S = .ok b S1 := by
  unfold eTst
  rw [h]
  rfl
theorem or_f {f g : MT} {en : En} {S S1 S2 : Sto} {b : Bool} (h : f en S = .ok false S1) (k : g en S1 = .ok b S2) : eOr f g en S = .ok b S2 := by
  unfold eOr
  rw [h]
  exact k
theorem if_f {t : MT} {f g : MS} {en : En} {S S1 : Sto} (h : t en S = .ok false S1) : sIf t f g en S = g en S1 := by
  unfold sIf
  rw [h]
  rfl
theorem if_t {t : MT} {f g : MS} {en : En} {S S1 : Sto} (h : t en S = .ok true S1) : sIf t f g en S = f en S1 := by
  unfold sIf
  rw [h]
  rfl
theorem format_row {r : List (Int × Int)} (h : Nbs r) (hl : r.length ≤ 3) (S : Sto) : M_format_row [.d (gR r)] S = .ok (.d (.str (mkS (tR r)))) S := by
  refine pu_rt (ds := [gR r]) (v := .d (.str (mkS (tR r)))) (S' := []) rfl ?_ rfl
  show b_format_row [some (.d (gR r))] [] = _
  unfold b_format_row
  refine (seq_nx (en1 := [some (.d (gR r))]) (s1 := []) (if_f (not_ok (tst_ok (eFn_ok (aCons_ok rfl (aNil_ok _ _)) rfl rfl (is_any_row h (by omega) [])))))).trans ?_
  refine (seq_nx (en1 := [some (.d (gR r))]) (s1 := []) (drop_ok (eFn_ok (as := [.d (.lst [gR r])]) (aCons_ok rfl (aNil_ok _ _)) rfl rfl (require_sizes (rows := [r]) rfl (fun x hx => by
    rw [List.mem_singleton.mp hx]
    exact ⟨h, by omega⟩) [])))).trans ?_
  exact ret_ok (eFn_ok (aCons_ok (eFn_ok (aCons_ok rfl (aNil_ok _ _)) rfl rfl (row_text h hl [])) (aNil_ok _ _)) rfl rfl (require_text (by have := (tR_tb h hl).len; omega) []))
theorem format_telling {t : List (List (Int × Int))} (h : ∀ r ∈ t, Nbs r ∧ r.length ≤ 3) (hl : t.length ≤ 4) (ne : t ≠ []) (S : Sto) : M_format_telling [.d (gT t)] S = .ok (.d (.str (mkS (tT t)))) S := by
  refine pu_rt (ds := [gT t]) (v := .d (.str (mkS (tT t)))) (S' := []) rfl ?_ rfl
  show b_format_telling [some (.d (gT t)), none] [] = _
  have c1 : eTst (eBin (eqV false) (eVar 0) (eTup aNil)) [some (.d (gT t)), none] [] = .ok false [] := tst_ok (eBin_ok rfl rfl (by
    have := eq_empty pgR (by decide) false [] t
    rw [Bool.false_xor] at this
    cases t with
    | nil => exact absurd rfl ne
    | cons x t => exact this))
  have lc : eLc [1] (iV (eVar 0)) (gtName 1) eYes (eFn 1 M_is_any_row (aCons (eVar 1) aNil)) [some (.d (gT t)), none] [] = .ok (.d (.lst (t.map fun _ => .bl true))) [] := lc_tup (g := gR) (h := fun _ => .bl true) (M := M_is_any_row) t (fun r hr S => is_any_row (h r hr).1 (by have := (h r hr).2; omega) S) (by omega) []
  have e3 : anyV false [] [.d (.lst (t.map fun _ => .bl true))] = some (.d (.bl true)) := by
    show (match bls (t.map fun _ => .bl true) with | some bs => some (Vl.d (.bl (if false = true then bs.any id else bs.all id))) | none => none) = _
    rw [bls_map (fun _ => true) t]
    have : ∀ l : List (List (Int × Int)), ((l.map fun _ => true).all id) = true := fun l => by
      induction l with
      | nil => rfl
      | cons x l ih => rw [List.map_cons, List.all_cons, ih]; rfl
    simp only [Bool.false_eq_true, if_false]
    rw [this]
  unfold b_format_telling
  refine (seq_nx (en1 := [some (.d (gT t)), none]) (s1 := []) (if_f (or_f (not_ok (tst_ok (b := true) rfl)) (or_f c1 (not_ok (tst_ok (eCB_ok (aCons_ok lc (aNil_ok _ _)) e3))))))).trans ?_
  refine (seq_nx (en1 := [some (.d (gT t)), none]) (s1 := []) (drop_ok (eFn_ok (as := [.d (gT t)]) (aCons_ok rfl (aNil_ok _ _)) rfl rfl (require_sizes (rows := t) rfl (fun x hx => ⟨(h x hx).1, by have := (h x hx).2; omega⟩) [])))).trans ?_
  exact ret_ok (eFn_ok (aCons_ok (eFn_ok (aCons_ok rfl (aNil_ok _ _)) rfl rfl (telling_text h hl [])) (aNil_ok _ _)) rfl rfl (require_text (by have := (tT_tb h hl).len; omega) []))
end L81
set_option Elab.async false
set_option linter.all false
set_option maxRecDepth 100000
set_option maxHeartbeats 1000000
namespace L81
open PySem PySem.Spec PyProof.Rows L2 Sm TL

theorem pow_ok {S : Sto} {i j : Int} (h : powC i j = true) : powV S (.d (.int i)) (.d (.int j)) = some (.d (.int (i ^ j.toNat))) := if_pos h
theorem eIf_ok {t : MT} {f g : ME} {en : En} {S S1 : Sto} {b : Bool} (h : t en S = .ok b S1) : eIf t f g en S = if b = true then f en S1 else g en S1 := by
  unfold eIf
  rw [h]
  rfl
theorem dice {ns : List Int} {spot : Nat} (hs : spot < 64) (hn : ns.length ≤ 63) (S : Sto) : ∃ S', M__law_dice [.d (.scr ns), .d (.int (spot : Int))] S = .ok (.ref S.length) S' ∧ DiceAt 0 S' S.length ∧ S'.length = S.length + 1 := by
  have c2 : ∃ cell : Int, eIf (eTst (eBin (gIb fun i j => decide (i < j)) (eVar 1) (eCB lenV (aCons (eVar 0) aNil)))) (eCB intV (aCons (eBin ixV (eVar 0) (eVar 1)) aNil)) (eBin addV (eBin mulV (eC (.int 131)) (eVar 1)) (eC (.int 37))) [some (.d (.scr ns)), some (.d (.int (spot : Int))), none, none, none] S = .ok (.d (.int cell)) S := by
    have t : eTst (eBin (gIb fun i j => decide (i < j)) (eVar 1) (eCB lenV (aCons (eVar 0) aNil))) [some (.d (.scr ns)), some (.d (.int (spot : Int))), none, none, none] S = .ok (decide ((spot : Int) < ((ns.map D.int).length : Nat))) S := tst_ok (eBin_ok rfl (eCB_ok (aCons_ok rfl (aNil_ok _ _)) rfl) rfl)
    rw [eIf_ok t]
    by_cases h : (spot : Int) < ((ns.map D.int).length : Nat)
    · rw [decide_eq_true h, if_pos rfl]
      obtain ⟨x, e, hx⟩ := atI_mem (l := ns.map D.int) (i := (spot : Int)) (by omega) h
      obtain ⟨c, _, rfl⟩ := List.mem_map.mp hx
      refine ⟨c, eCB_ok (aCons_ok (x := .d (.int c)) (eBin_ok rfl rfl ?_) (aNil_ok _ _)) rfl⟩
      show (match atI (ns.map D.int) (spot : Int) with | some d => some (Vl.d d) | none => none) = _
      rw [e]
    · rw [decide_eq_false h, if_neg Bool.false_ne_true]
      exact ⟨131 * (spot : Int) + 37, eBin_ok (eBin_ok rfl rfl (mulV_int (mulC_of (by decide) (small200 (b := 64) (by omega) (by decide))))) rfl rfl⟩
  obtain ⟨cell, e2⟩ := c2
  have G0 : (0 : Int) < (10 ^ (53 : Int).toNat) ^ (6 : Int).toNat := by decide +kernel
  have p1 : ∀ en S, eBin powV (eBin powV (eC (.int 10)) (eC (.int 53))) (eC (.int 6)) en S = .ok (.d (.int ((10 ^ (53 : Int).toNat) ^ (6 : Int).toNat))) S := fun en S => eBin_ok (eBin_ok rfl rfl (pow_ok (by decide +kernel))) rfl (pow_ok (by decide +kernel))
  have p2 : ∀ en S, eBin powV (eC (.int 10)) (eC (.int 16)) en S = .ok (.d (.int (10 ^ (16 : Int).toNat))) S := fun en S => eBin_ok rfl rfl (pow_ok (by decide +kernel))
  generalize hG : ((10 : Int) ^ (53 : Int).toNat) ^ (6 : Int).toNat = G at G0 p1
  let gr : Int := (if cell < 0 then -cell else cell) % G
  let sd : Int := gr % 2305843009213693907 * 73 + 619 * (spot : Int) + 41 * (if decide (cell < 0) = true then 1 else 0) + 17
  let mx : Int := if gr - 10 ^ (16 : Int).toNat > 0 then gr - 10 ^ (16 : Int).toNat else 0
  refine ⟨S ++ [.lst [.int mx, .int sd, .int 0]], stF_rt ?_, ⟨mx, sd, 0, List.getElem?_concat_length .., ?_, by decide, by decide⟩, List.length_append ..⟩
  · show b__law_dice [some (.d (.scr ns)), some (.d (.int (spot : Int))), none, none, none] S = _
    unfold b__law_dice
    refine (seq_nx (en1 := [some (.d (.scr ns)), some (.d (.int (spot : Int))), some (.d (.int cell)), none, none]) (s1 := S) (set_ok e2)).trans ?_
    refine (seq_nx (en1 := [some (.d (.scr ns)), some (.d (.int (spot : Int))), some (.d (.int cell)), some (.d (.int gr)), none]) (s1 := S) (set_ok (x := .d (.int gr)) (eBin_ok (eCB_ok (aCons_ok (eCB_ok (aCons_ok rfl (aNil_ok _ _)) rfl) (aNil_ok _ _)) rfl) (p1 _ _) (modV_int G0)))).trans ?_
    have m0 : 0 ≤ gr % 2305843009213693907 := Int.emod_nonneg _ (by decide)
    have m1 : gr % 2305843009213693907 < 2305843009213693907 := Int.emod_lt_of_pos _ (by decide)
    refine (seq_nx (en1 := [some (.d (.scr ns)), some (.d (.int (spot : Int))), some (.d (.int cell)), some (.d (.int gr)), some (.d (.int sd))]) (s1 := S) (set_ok (x := .d (.int sd)) ?_)).trans ?_
    · refine eBin_ok (eBin_ok (eBin_ok (eBin_ok (eBin_ok rfl rfl (modV_int (by decide))) rfl (mulV_int (mulC_of (small200 (b := 2 ^ 64) (by omega) (by decide)) (by decide)))) (eBin_ok rfl rfl (mulV_int (mulC_of (by decide) (small200 (b := 64) (by omega) (by decide))))) rfl) (eBin_ok rfl (eCB_ok (aCons_ok (eBin_ok rfl rfl rfl) (aNil_ok _ _)) rfl) (mulV_int (mulC_of (by decide) (small200 (b := 1) ?_ (by decide))))) rfl) rfl rfl
      split <;> decide
    · exact ret_ok (lstM_ok (aCons_ok (eCB_ok (r := .d (.int mx)) (aCons_ok rfl (aCons_ok (eBin_ok rfl (p2 _ _) rfl) (aNil_ok _ _))) rfl) (aCons_ok rfl (aCons_ok rfl (aNil_ok _ _)))) rfl (by show 3 ≤ sizeLine; have z : sizeLine = 16777216 := rfl; omega))
  · show 0 ≤ if gr - 10 ^ (16 : Int).toNat > 0 then gr - 10 ^ (16 : Int).toNat else 0
    split <;> omega
end L81
set_option Elab.async false
set_option linter.all false
set_option maxRecDepth 100000
set_option maxHeartbeats 1000000
namespace L81
open PySem PySem.Spec PyProof.Rows L2 Sm TL

/-! ## loops that change the store -/
theorem fo_st {g : GT} {body : MS} (N : Nat) (I : Nat → En → Sto → Prop) : ∀ (ds : List D) (i : Nat) (en : En) (S : Sto), i + ds.length ≤ N → I i en S → (∀ d ∈ ds, ∀ i en S, i < N → I i en S → ∃ en1 en2 S2, g (.d d) S en = some en1 ∧ body en1 S = .nx en2 S2 ∧ I (i + 1) en2 S2) → ∃ en' S', foGo g body ds en S = .nx en' S' ∧ I (i + ds.length) en' S'
  | [], i, en, S, _, h, _ => ⟨en, S, rfl, h⟩
  | d :: ds, i, en, S, hn, h, k => by
    rw [List.length_cons] at hn
    obtain ⟨en1, en2, S2, h1, h2, h3⟩ := k d (List.mem_cons_self ..) i en S (by omega) h
    obtain ⟨en', S', e1, e2⟩ := fo_st N I ds (i + 1) en2 S2 (by omega) h3 fun x hx => k x (List.mem_cons_of_mem _ hx)
    refine ⟨en', S', ?_, by rw [List.length_cons, show i + (ds.length + 1) = i + 1 + ds.length by omega]; exact e2⟩
    unfold foGo
    simp only [h1, h2]
    exact e1
theorem for_ok {fi : En → Sto → Out (List D)} {g : GT} {body : MS} {en en' : En} {S S1 S' : Sto} {ds : List D} (h : fi en S = .ok ds S1) (k : foGo g body ds en S1 = .nx en' S') : sFor fi g body en S = .nx en' S' := by
  unfold sFor
  rw [h]
  exact k
theorem rng_ok {F : ME} {en : En} {S S1 : Sto} {r : Int} (h : F en S = .ok (.d (.int r)) S1) (h0 : 0 ≤ r) (h1 : r < 1000) : iR rng1V (aCons F aNil) en S = .ok ((List.range r.toNat).map fun k => .int (0 + (k : Nat))) S1 := by
  unfold iR
  rw [aCons_ok h (aNil_ok _ _), bind_ok]
  have : rng1V [.d (.int r)] = some ((List.range r.toNat).map fun k => .int (0 + (k : Nat))) := if_pos ⟨by omega, by omega⟩
  rw [this]
theorem app_ok2 {fo : ME} {fa : MA} {en : En} {S S1 : Sto} {m : Nat} {l0 l : List D} {d : D} (h : fo en S = .ok (.ref m) S) (e0 : S[m]? = some (.lst l0)) (k : fa en S = .ok [.d d] S1) (e : S1[m]? = some (.lst l)) (hl : l.length < sizeLine) : eApp fo fa en S = .ok (.d .non) (S1.set m (.lst (l ++ [d]))) := by
  unfold eApp
  rw [h, bind_ok]
  have c : isCl S (.ref m) = true := by
    show (match S[m]? with | some (.lst _) => true | _ => false) = true
    rw [e0]
  rw [if_pos c, k, bind_ok]
  have a : appV (.ref m) [.d d] S1 = some (S1.set m (.lst (l ++ [d]))) := by
    show (match S1[m]? with | some (.lst l) => (if l.length < sizeLine then some (S1.set m (.lst (l ++ [d]))) else none) | _ => none) = _
    rw [e]
    exact if_pos hl
  rw [a]
theorem Stp.set' {n q : Nat} {S0 S : Sto} (h : Stp n S0 S) (hq : S0.length ≤ q) (x : Cell) : Stp n S0 (S.set q x) := ⟨by rw [List.length_set]; exact h.len, fun m h1 h2 => by rw [List.getElem?_set_ne (by omega)]; exact h.same m h1 h2⟩
theorem get_len {S : Sto} {m : Nat} {x : Cell} (h : S[m]? = some x) : m < S.length := (List.getElem?_eq_some_iff.mp h).1

/-! ## drawn numbers -/
def someI : List Int := [0, 1, -1, 2, -3, 12, 10 ^ (40 : Int).toNat + 1, 0 - 10 ^ (60 : Int).toNat]
def botI : List Int := [1, 1, 2, 3, 7, 10 ^ (30 : Int).toNat + 3]
def bot2 : List Int := [1, 2, 6, 35]
theorem some_ok : ∀ a ∈ someI, a.natAbs < 10 ^ 62 := by decide +kernel
theorem bot_ok : ∀ b ∈ botI, 1 ≤ b ∧ b.natAbs < 10 ^ 62 := by decide +kernel
theorem bot2_ok : ∀ b ∈ bot2, 1 ≤ b ∧ b.natAbs < 10 ^ 62 := by decide +kernel
theorem draw {a b : Int} (ha : a.natAbs < 10 ^ 62) (hb : b.natAbs < 10 ^ 62) (h : 1 ≤ b) : ∃ p, Nb p ∧ ∀ S, M__law_fr [.d (.int a), .d (.int b)] S = .ok (.d (gN p)) S :=
  ⟨(a / Int.gcd a b, b / Int.gcd a b), ⟨fr_vd h, Nat.lt_of_le_of_lt (Int.natAbs_ediv_le_natAbs a _) ha, Nat.lt_of_le_of_lt (Int.natAbs_ediv_le_natAbs b _) hb⟩, fun S => law_fr (Nat.lt_of_lt_of_le ha p62) (Nat.lt_of_lt_of_le hb p62) h S⟩
theorem some_e (en : En) (S : Sto) : eLst (aCons (eC (.int 0)) (aCons (eC (.int 1)) (aCons (eUn negV (eC (.int 1))) (aCons (eC (.int 2)) (aCons (eUn negV (eC (.int 3))) (aCons (eC (.int 12)) (aCons (eBin addV (eBin powV (eC (.int 10)) (eC (.int 40))) (eC (.int 1))) (aCons (eBin subV (eC (.int 0)) (eBin powV (eC (.int 10)) (eC (.int 60)))) aNil)))))))) en S = .ok (.d (.lst (someI.map .int))) S := by
  have z : sizeLine = 16777216 := rfl
  refine lst_ok (aCons_ok rfl (aCons_ok rfl (aCons_ok (x := .d (.int (-1))) rfl (aCons_ok rfl (aCons_ok (x := .d (.int (-3))) rfl (aCons_ok rfl (aCons_ok (eBin_ok (eBin_ok rfl rfl (pow_ok (by decide +kernel))) rfl (addV_int _ _ _)) (aCons_ok (eBin_ok rfl (eBin_ok rfl rfl (pow_ok (by decide +kernel))) (subV_int _ _ _)) (aNil_ok _ _))))))))) rfl ?_
  show 8 ≤ _
  omega
theorem bot_e (en : En) (S : Sto) : eLst (aCons (eC (.int 1)) (aCons (eC (.int 1)) (aCons (eC (.int 2)) (aCons (eC (.int 3)) (aCons (eC (.int 7)) (aCons (eBin addV (eBin powV (eC (.int 10)) (eC (.int 30))) (eC (.int 3))) aNil)))))) en S = .ok (.d (.lst (botI.map .int))) S := by
  have z : sizeLine = 16777216 := rfl
  refine lst_ok (aCons_ok rfl (aCons_ok rfl (aCons_ok rfl (aCons_ok rfl (aCons_ok rfl (aCons_ok (eBin_ok (eBin_ok rfl rfl (pow_ok (by decide +kernel))) rfl (addV_int _ _ _)) (aNil_ok _ _))))))) rfl ?_
  show 6 ≤ _
  omega
theorem bot2_e (en : En) (S : Sto) : eLst (aCons (eC (.int 1)) (aCons (eC (.int 2)) (aCons (eC (.int 6)) (aCons (eC (.int 35)) aNil)))) en S = .ok (.d (.lst (bot2.map .int))) S := rfl
theorem frac {en : En} {k n : Nat} {S : Sto} {B : ME} {bots : List Int} (h0 : en[0]? = some (some (.ref n))) (h1 : en[1]? = some (some (.d (.lst (someI.map .int))))) (hB : ∀ S, B en S = .ok (.d (.lst (bots.map .int))) S)
    (hb : ∀ b ∈ bots, 1 ≤ b ∧ b.natAbs < 10 ^ 62) (hn : bots ≠ []) (hl : bots.length < 100) (d : DiceAt k S n) (hk : k + 2 < 2 ^ 40) :
    ∃ p S', eFn 2 M__law_fr (aCons (eFn 2 M__law_pick (aCons (eVar 0) (aCons (eVar 1) aNil))) (aCons (eFn 2 M__law_pick (aCons (eVar 0) (aCons B aNil))) aNil)) en S = .ok (.d (gN p)) S' ∧ Nb p ∧ DiceAt (k + 2) S' n ∧ Stp n S S' := by
  have v0 : ∀ S, eVar 0 en S = .ok (.ref n) S := fun S => by simp only [eVar, h0]
  have v1 : ∀ S, eVar 1 en S = .ok (.d (.lst (someI.map .int))) S := fun S => by simp only [eVar, h1]
  obtain ⟨x, S1, e1, hx, d1, s1⟩ := pick (l := someI.map .int) d (by omega) (List.cons_ne_nil _ _) (by decide)
  obtain ⟨y, S2, e2, hy, d2, s2⟩ := pick (l := bots.map .int) d1 (by omega) (by simpa using hn) (by rw [List.length_map]; omega)
  obtain ⟨a, ha, rfl⟩ := List.mem_map.mp hx
  obtain ⟨b, hb', rfl⟩ := List.mem_map.mp hy
  obtain ⟨p, np, e⟩ := draw (some_ok a ha) (hb b hb').2 (hb b hb').1
  refine ⟨p, S2, eFn_ok (aCons_ok (eFn_ok (aCons_ok (v0 _) (aCons_ok (v1 _) (aNil_ok _ _))) rfl rfl e1) (aCons_ok (eFn_ok (aCons_ok (v0 _) (aCons_ok (hB _) (aNil_ok _ _))) rfl rfl e2) (aNil_ok _ _))) rfl rfl (e S2), np, d2, s1.trans s2⟩

/-! ## rows that are drawn -/
abbrev sD : Option Vl := some (.d (.lst (someI.map .int)))
def rowB : MS := sDrop (eApp (eVar 6) (aCons (eFn 2 M__law_fr (aCons (eFn 2 M__law_pick (aCons (eVar 0) (aCons (eVar 1) aNil))) (aCons (eFn 2 M__law_pick (aCons (eVar 0) (aCons (eLst (aCons (eC (.int 1)) (aCons (eC (.int 1)) (aCons (eC (.int 2)) (aCons (eC (.int 3)) (aCons (eC (.int 7)) (aCons (eBin addV (eBin powV (eC (.int 10)) (eC (.int 30))) (eC (.int 3))) aNil))))))) aNil))) aNil))) aNil))
def rowsB : MS := (sSeq (sSet 6 (eLstM aNil)) (sSeq (sFor (iR rng1V (aCons (eFn 2 M__law_roll (aCons (eVar 0) (aCons (eC (.int 4)) aNil))) aNil)) (gtName 7) rowB) (sDrop (eApp (eVar 2) (aCons (eCB tupV (aCons (eVar 6) aNil)) aNil)))))
theorem roll4 {en : En} {k n : Nat} {S : Sto} (h0 : en[0]? = some (some (.ref n))) (d : DiceAt k S n) (hk : k < 2 ^ 40) : ∃ r S', eFn 2 M__law_roll (aCons (eVar 0) (aCons (eC (.int 4)) aNil)) en S = .ok (.d (.int r)) S' ∧ 0 ≤ r ∧ r < 4 ∧ DiceAt (k + 1) S' n ∧ Stp n S S' := by
  obtain ⟨r, S', e, r0, r1, d1, s1⟩ := roll (tot := 4) d hk (by decide) (by decide)
  exact ⟨r, S', eFn_ok (aCons_ok (by simp only [eVar, h0]) (aCons_ok rfl (aNil_ok _ _))) rfl rfl e, r0, r1, d1, s1⟩
theorem row_loop {k n m : Nat} {S0 S : Sto} {rows : List (List (Int × Int))} {x3 x6 x7 : Option Vl} (d : DiceAt k S n) (hk : k + 20 < 2 ^ 40) (s : Stp n S0 S) (hm : S0.length ≤ m) (hn : n < S0.length) (hS : S[m]? = some (.lst (rows.map gR))) (hr : rows.length ≤ 100) :
    ∃ row S' x6' x7', rowsB [some (.ref n), sD, some (.ref m), x3, none, none, x6, x7, none, none, none, none, none, none] S = .nx [some (.ref n), sD, some (.ref m), x3, none, none, x6', x7', none, none, none, none, none, none] S' ∧
      Nbs row ∧ row.length ≤ 3 ∧ S'[m]? = some (.lst ((rows ++ [row]).map gR)) ∧ DiceAt (k + 9) S' n ∧ Stp n S0 S' := by
  have z : sizeLine = 16777216 := rfl
  have lm := get_len hS
  obtain ⟨q, hq⟩ : ∃ q, q = S.length := ⟨_, rfl⟩
  let S1 : Sto := S ++ [.lst []]
  have g1 : S1[q]? = some (.lst (([] : List (Int × Int)).map gN)) := by rw [hq]; exact List.getElem?_concat_length ..
  have m1 : S1[m]? = some (.lst (rows.map gR)) := by
    show (S ++ [_])[m]? = _
    rw [List.getElem?_append_left lm]
    exact hS
  have sl := s.len
  have hq1 : S0.length ≤ q := by omega
  have hq2 : m < q := by omega
  obtain ⟨r, S2, e2, r0, r1, d2, s2⟩ := roll4 (en := [some (.ref n), sD, some (.ref m), x3, none, none, some (.ref q), x7, none, none, none, none, none, none]) rfl (d.push (.lst [])) (by omega)
  have s12 : Stp n S0 S2 := (s.trans (Stp.push n S _)).trans s2
  have l1 : (S ++ [Cell.lst []]).length = q + 1 := by rw [hq]; exact List.length_append ..
  have g2 : S2[q]? = some (.lst (([] : List (Int × Int)).map gN)) := (s2.same q (by omega) (by omega)).trans g1
  have m2 : S2[m]? = some (.lst (rows.map gR)) := (s2.same m (by omega) (by omega)).trans m1
  obtain ⟨en', S3, f1, row, y7, f2, f3, f4, f5, f6, f7, f8⟩ := fo_st (g := gtName 7) (body := rowB) 4 (fun i en S => ∃ row y7, en = [some (.ref n), sD, some (.ref m), x3, none, none, some (.ref q), y7, none, none, none, none, none, none] ∧ S[q]? = some (.lst (row.map gN)) ∧ row.length = i ∧ Nbs row ∧ S[m]? = some (.lst (rows.map gR)) ∧ DiceAt (k + 1 + 2 * i) S n ∧ Stp n S0 S)
    ((List.range r.toNat).map fun k => .int (0 + (k : Nat))) 0 [some (.ref n), sD, some (.ref m), x3, none, none, some (.ref q), x7, none, none, none, none, none, none] S2 (by rw [List.length_map, List.length_range]; omega) ⟨[], x7, rfl, g2, rfl, fun _ h => absurd h List.not_mem_nil, m2, d2, s12⟩ (by
      rintro dd hd i en S hi ⟨row, y7, rfl, c1, c2, c3, c4, c5, c6⟩
      obtain ⟨p, S', ef, np, df, sf⟩ := frac (en := [some (.ref n), sD, some (.ref m), x3, none, none, some (.ref q), some (.d dd), none, none, none, none, none, none]) rfl rfl (bot_e _) bot_ok (List.cons_ne_nil _ _) (by decide) c5 (by omega)
      have lq := get_len c1
      have lm' := get_len c4
      have g' : S'[q]? = some (.lst (row.map gN)) := (sf.same q (by omega) lq).trans c1
      have m' : S'[m]? = some (.lst (rows.map gR)) := (sf.same m (by omega) lm').trans c4
      have lq' := get_len g'
      refine ⟨_, [some (.ref n), sD, some (.ref m), x3, none, none, some (.ref q), some (.d dd), none, none, none, none, none, none], S'.set q (.lst (row.map gN ++ [gN p])), rfl, drop_ok (app_ok2 rfl c1 (aCons_ok ef (aNil_ok _ _)) g' (by rw [List.length_map]; omega)), row ++ [p], some (.d dd), rfl, ?_, ?_, ?_, ?_, ?_, ?_⟩
      · rw [List.getElem?_set_self lq', List.map_append]; rfl
      · rw [List.length_append, c2]; rfl
      · intro x hx
        rcases List.mem_append.mp hx with h | h
        · exact c3 x h
        · rw [List.mem_singleton.mp h]; exact np
      · rw [List.getElem?_set_ne (by omega)]; exact m'
      · exact (df.mono (by omega)).set (by omega) _
      · exact (c6.trans sf).set' (by omega) _)
  subst f2
  rw [List.length_map, List.length_range] at f4 f7
  have lq3 := get_len f3
  have lm3 := get_len f6
  have f3' : asSeq S3 (.ref q) = some (row.map gN) := by
    show (match S3[q]? with | some (.lst l) => some l | _ => none) = _
    rw [f3]
  refine ⟨row, S3.set m (.lst (rows.map gR ++ [gR row])), some (.ref q), y7, ?_, f5, by omega, ?_, (f7.mono (by omega)).set (by omega) _, f8.set' hm _⟩
  · unfold rowsB
    refine (seq_nx (en1 := [some (.ref n), sD, some (.ref m), x3, none, none, some (.ref q), x7, none, none, none, none, none, none]) (s1 := S1) (by rw [hq]; exact set_ok (lstM_ok (aNil_ok _ _) rfl (Nat.zero_le _)))).trans ?_
    refine (seq_nx (for_ok (rng_ok e2 r0 (by omega)) f1)).trans ?_
    refine drop_ok (app_ok2 rfl f6 (aCons_ok (eCB_ok (aCons_ok rfl (aNil_ok _ _)) ?_) (aNil_ok _ _)) f6 (by rw [List.length_map]; omega))
    show (match asSeq S3 (.ref q) with | some l => some (Vl.d (.tup l)) | none => none) = _
    rw [f3']
    rfl
  · rw [List.getElem?_set_self lm3, List.map_append]; rfl
end L81
set_option Elab.async false
set_option linter.all false
set_option maxRecDepth 100000
set_option maxHeartbeats 1000000
namespace L81
open PySem PySem.Spec PyProof.Rows L2 Sm TL

/-! ## what is compared -/
def Cmp (x y : Str) : Prop := ∀ l, Tx l → ∃ d, (∀ S, M__law_spot [.d (.glo x), .d (.str (mkS l))] S = .ok (.d d) S) ∧ (∀ S, M__law_due [.d (.glo y), .d (.str (mkS l))] S = .ok (.d d) S) ∧ ∀ S, ∃ s, repV S [.d d] = some (.d (.str s)) ∧ S256 s
theorem cmp_of {x y z : Str} {α : Type} {M M1 M2 : MF} {g : α → D} {p : α → PyData} {f : List Nat → Option α} (hC : T_call x = some (1, M)) (hD : T_due y = some (1, M2)) (hM : M = puF (puR 1 (sRet (eFn 2 M_one_line (aCons (eVar 0) (aCons (eC (.glo z)) aNil)))))) (hT : T_read z = some (1, M1)) (R : Rdr M1 M2 g p f) : Cmp x y := fun l t =>
  ⟨outD g f l, fun S => law_spot hC (fun S => parse_of hM hT R t S) S, fun S => law_due hD R t S, fun S => outD_rep R t S⟩
theorem cmpN : Cmp "parse_number" "_law_read_number" := cmp_of (z := "number_in") rfl rfl rfl rfl rdrN
theorem cmpR : Cmp "parse_row" "_law_read_row" := cmp_of (z := "row_in") rfl rfl rfl rfl rdrR
theorem cmpT : Cmp "parse_telling" "_law_read_telling" := cmp_of (z := "telling_in") rfl rfl rfl rfl rdrT
theorem var_ok {i : Nat} {en : En} {v : Vl} (h : en[i]? = some (some v)) (S : Sto) : eVar i en S = .ok v S := by
  simp only [eVar, h]
theorem cmp_e {i j q : Nat} {x y : Str} {l : List Nat} {en : En} (h : Cmp x y) (t : Tx l) (hi : en[i]? = some (some (.d (.glo x)))) (hj : en[j]? = some (some (.d (.glo y)))) (hq : en[q]? = some (some (.d (.str (mkS l))))) (S : Sto) :
    eTst (eBin (eqV true) (eCB repV (aCons (eFn 2 M__law_spot (aCons (eVar i) (aCons (eVar q) aNil))) aNil)) (eCB repV (aCons (eFn 2 M__law_due (aCons (eVar j) (aCons (eVar q) aNil))) aNil))) en S = .ok false S := by
  obtain ⟨d, h1, h2, h3⟩ := h l t
  obtain ⟨s, h4, h5⟩ := h3 S
  exact rep_same (eFn_ok (aCons_ok (var_ok hi S) (aCons_ok (var_ok hq S) (aNil_ok _ _))) rfl rfl (h1 S)) (eFn_ok (aCons_ok (var_ok hj S) (aCons_ok (var_ok hq S) (aNil_ok _ _))) rfl rfl (h2 S)) h4 h5
/-! ## what is read back -/
theorem free_one {l : List Nat} (h : 10 ∉ l) : hd l = l ∧ one l = true := by
  have e : cutL [10] l = [l] := spl_last1 h
  unfold hd one
  rw [e]
  exact ⟨rfl, rfl⟩
theorem tN_nl (p : Int × Int) : 10 ∉ tN p := tN_free (by omega)
theorem tR_nl (r : List (Int × Int)) : 10 ∉ tR r := by
  intro h
  unfold tR at h
  split at h
  · exact absurd h (by decide)
  · rcases joinL_mem h with h | ⟨q, hq, h⟩
    · exact absurd h (by decide)
    · obtain ⟨p, _, rfl⟩ := List.mem_map.mp hq
      exact tN_nl p h
theorem tT_nl (t : List (List (Int × Int))) : 10 ∉ tT t := by
  intro h
  unfold tT at h
  rcases joinL_mem h with h | ⟨q, hq, h⟩
  · exact absurd h (by decide)
  · obtain ⟨p, _, rfl⟩ := List.mem_map.mp hq
    exact tR_nl p h
theorem out_back {α : Type} {g : α → D} {f : List Nat → Option α} {l : List Nat} {v : α} (h : 10 ∉ l) (e : f l = some v) (S : Sto) : outP g f l S = .ok (.d (g v)) S := by
  obtain ⟨h1, h2⟩ := free_one h
  unfold outP
  rw [h1, e]
  simp only [h2, if_true]
section
variable {p : Int × Int} {r : List (Int × Int)} {t : List (List (Int × Int))}
theorem txN (h : Nb p) : Tx (tN p) := (tN_tb h).tx (by decide) (by decide)
theorem txR (h : Nbs r) (hl : r.length ≤ 3) : Tx (tR r) := (tR_tb h hl).tx (by decide) (by decide)
theorem txT (h : ∀ r ∈ t, Nbs r ∧ r.length ≤ 3) (hl : t.length ≤ 4) : Tx (tT t) := (tT_tb h hl).tx (by decide) (by decide)
theorem backN (h : Nb p) (S : Sto) : M_parse_number [.d (.str (mkS (tN p)))] S = .ok (.d (gN p)) S := (parse_of (x := "number_in") rfl rfl rdrN (txN h) S).trans (out_back (tN_nl p) (rdN_back h) S)
theorem backR (h : Nbs r) (hl : r.length ≤ 3) (S : Sto) : M_parse_row [.d (.str (mkS (tR r)))] S = .ok (.d (gR r)) S := (parse_of (x := "row_in") rfl rfl rdrR (txR h hl) S).trans (out_back (tR_nl r) (rdR_back h) S)
theorem backT (h : ∀ r ∈ t, Nbs r ∧ r.length ≤ 3) (hl : t.length ≤ 4) (ne : t ≠ []) (S : Sto) : M_parse_telling [.d (.str (mkS (tT t)))] S = .ok (.d (gT t)) S := (parse_of (x := "telling_in") rfl rfl rdrT (txT h hl) S).trans (out_back (tT_nl t) (rdT_back ne fun r hr => (h r hr).1) S)
theorem Sh.three {n : Nat} {x y z : PyData} (hx : Sh n x) (hy : Sh n y) (hz : Sh n z) : Sh (3 * n + 9) (.list [x, y, z]) := by
  have := Sh.list (l := [x, y, z]) (f := fun z => z) (w := fun z => z.shown.length) fun w hw => by
    rcases List.mem_cons.mp hw with h | hw
    · rw [h]; exact hx.self
    · rcases List.mem_cons.mp hw with h | hw
      · rw [h]; exact hy.self
      · rw [List.mem_singleton.mp hw]; exact hz.self
  refine Sh.mono this ?_
  have := hx.le
  have := hy.le
  have := hz.le
  simp only [List.map_cons, List.map_nil, List.sum_cons, List.sum_nil, List.length_cons, List.length_nil]
  omega
theorem vals_rep (h1 : Nb p) (h2 : Nbs r) (h2l : r.length ≤ 3) (h3 : ∀ r ∈ t, Nbs r ∧ r.length ≤ 3) (h3l : t.length ≤ 4) (ne : t ≠ []) (S : Sto) : ∃ s, repV S [.d (.lst [gN p, gR r, gT t])] = some (.d (.str s)) ∧ S256 s := by
  have s1 := rdrN.sh _ (txN h1)
  rw [rdN_back h1] at s1
  have s2 := rdrR.sh _ (txR h2 h2l)
  rw [rdR_back h2] at s2
  have s3 := rdrT.sh _ (txT h3 h3l)
  rw [rdT_back ne fun r hr => (h3 r hr).1] at s3
  have sh : Sh (3 * 110000 + 9) (.list [pN p, pR r, pT t]) := Sh.three s1 s2 s3
  have py : toPy (.lst [gN p, gR r, gT t]) = some (.list [pN p, pR r, pT t]) := toPy_lst (by
    unfold toPys
    rw [pgN.py]
    unfold toPys
    rw [pgR.py]
    unfold toPys
    rw [pgT.py]
    rfl)
  have gd : Gd 4 (.list [pN p, pR r, pT t]) := Gd.list (k := 3) fun w hw => by
    rcases List.mem_cons.mp hw with h | hw
    · rw [h]; exact (pgN.gd p).mono (by decide)
    · rcases List.mem_cons.mp hw with h | hw
      · rw [h]; exact (pgR.gd r).mono (by decide)
      · rw [List.mem_singleton.mp hw]; exact pgT.gd t
  exact ⟨_, repV_lst py sh (by decide) (by have := gd.2; omega), sh.sg⟩
end
theorem strs_same {a b c : List Nat} (ha : ∀ x ∈ a, x < 256) (hb : ∀ x ∈ b, x < 256) (hc : ∀ x ∈ c, x < 256) (S : Sto) : eqV true S (.d (.lst [.str (mkS a), .str (mkS b), .str (mkS c)])) (.d (.lst [.str (mkS a), .str (mkS b), .str (mkS c)])) = some (.d (.bl false)) := by
  have gd : Gd 2 (.list [.str (mkS a), .str (mkS b), .str (mkS c)]) := Gd.list (k := 1) fun w hw => by
    rcases List.mem_cons.mp hw with h | hw
    · rw [h]; exact ⟨okS ha, by simp only [PyData.depth]; omega⟩
    · rcases List.mem_cons.mp hw with h | hw
      · rw [h]; exact ⟨okS hb, by simp only [PyData.depth]; omega⟩
      · rw [List.mem_singleton.mp hw]; exact ⟨okS hc, by simp only [PyData.depth]; omega⟩
  have py : toPy (.lst [.str (mkS a), .str (mkS b), .str (mkS c)]) = some (.list [.str (mkS a), .str (mkS b), .str (mkS c)]) := rfl
  rw [eqV_d py py (gd.shp (by decide)) (gd.shp (by decide)), SeqAt.eqv_refl _ gd.1]
  rfl
end L81
set_option Elab.async false
set_option linter.all false
set_option maxRecDepth 100000
set_option maxHeartbeats 1000000
namespace L81
open PySem PySem.Spec PyProof.Rows L2 Sm TL

theorem par3_ok {i j l : Nat} {fa : MA} {en : En} {S S1 : Sto} {a b c : Vl} (h : fa en S = .ok [a, b, c] S1) : sPar3 i j l fa en S = .nx (((en.set i (some a)).set j (some b)).set l (some c)) S1 := by
  unfold sPar3
  rw [h]
  rfl
theorem iv_ok {f : ME} {en : En} {S S1 : Sto} {x : Vl} {l : List D} (h : f en S = .ok x S1) (e : walkV x = some l) : iV f en S = .ok l S1 := by
  unfold iV
  rw [h, bind_ok, e]
/-! ## the texts that are bent -/
def bentB : MS := (sSeq (sSet 13 (eFn 2 M__law_bent (aCons (eVar 0) (aCons (eVar 12) aNil)))) (sIf (eTst (eBin (eqV true) (eCB repV (aCons (eFn 2 M__law_spot (aCons (eVar 10) (aCons (eVar 13) aNil))) aNil)) (eCB repV (aCons (eFn 2 M__law_due (aCons (eVar 11) (aCons (eVar 13) aNil))) aNil)))) (sRet (eC (.bl false))) sNx))
theorem bent_loop {k n : Nat} {S : Sto} {x y : Str} {l : List Nat} {a1 a2 a3 a4 a5 a6 a7 a8 a9 a13 : Option Vl} (hc : Cmp x y) (t : TB 1800 70 l) (d : DiceAt k S n) (hk : k + 100 < 2 ^ 40) :
    ∃ b3 b13 S', sFor (iR rng1V (aCons (eC (.int 12)) aNil)) (gtName 3) bentB [some (.ref n), a1, a2, a3, a4, a5, a6, a7, a8, a9, some (.d (.glo x)), some (.d (.glo y)), some (.d (.str (mkS l))), a13] S = .nx [some (.ref n), a1, a2, b3, a4, a5, a6, a7, a8, a9, some (.d (.glo x)), some (.d (.glo y)), some (.d (.str (mkS l))), b13] S' ∧ DiceAt (k + 36) S' n ∧ Stp n S S' := by
  obtain ⟨en', S', f1, b3, b13, rfl, f2, f3⟩ := fo_st (g := gtName 3) (body := bentB) 12 (fun i en S' => ∃ b3 b13, en = [some (.ref n), a1, a2, b3, a4, a5, a6, a7, a8, a9, some (.d (.glo x)), some (.d (.glo y)), some (.d (.str (mkS l))), b13] ∧ DiceAt (k + 3 * i) S' n ∧ Stp n S S')
    ((List.range (12 : Int).toNat).map fun k => .int (0 + (k : Nat))) 0 _ S (by rw [List.length_map, List.length_range]; decide) ⟨a3, a13, rfl, d, .refl _ _⟩ (by
      rintro dd hd i en S1 hi ⟨b3, b13, rfl, c1, c2⟩
      obtain ⟨l', S2, e, t', d', s'⟩ := bent c1 (by omega) t
      refine ⟨_, [some (.ref n), a1, a2, some (.d dd), a4, a5, a6, a7, a8, a9, some (.d (.glo x)), some (.d (.glo y)), some (.d (.str (mkS l))), some (.d (.str (mkS l')))], S2, rfl, ?_, some (.d dd), some (.d (.str (mkS l'))), rfl, d'.mono (by omega), c2.trans s'⟩
      unfold bentB
      refine (seq_nx (set_ok (eFn_ok (aCons_ok rfl (aCons_ok rfl (aNil_ok _ _))) rfl rfl e))).trans ?_
      exact if_f (cmp_e hc t' rfl rfl rfl S2))
  refine ⟨b3, b13, S', for_ok (rng_ok rfl (by decide) (by decide)) f1, ?_, f3⟩
  rw [List.length_map, List.length_range] at f2
  exact f2.mono (by have : (12 : Int).toNat = 12 := rfl; omega)
/-! ## drawn values -/
theorem asS_ref {S : Sto} {m : Nat} {l : List D} (h : S[m]? = some (.lst l)) : asSeq S (.ref m) = some l := by
  show (match S[m]? with | some (.lst l) => some l | _ => none) = _
  rw [h]
theorem tup_ref {S : Sto} {m : Nat} {l : List D} (h : S[m]? = some (.lst l)) : tupV S [.ref m] = some (.d (.tup l)) := by
  show (match asSeq S (.ref m) with | some l => some (Vl.d (.tup l)) | none => none) = _
  rw [asS_ref h]
theorem law_right {k n : Nat} {S : Sto} (d : DiceAt k S n) (hk : k + 400 < 2 ^ 40) : ∃ S', M__law_right [.ref n] S = .ok (.d (.bl true)) S' ∧ DiceAt (k + 200) S' n ∧ Stp n S S' := by
  have z : sizeLine = 16777216 := rfl
  obtain ⟨m, hm⟩ : ∃ m, m = S.length := ⟨_, rfl⟩
  have hn := d.lt
  obtain ⟨r, S2, e2, r0, r1, d2, s2⟩ := roll4 (en := [some (.ref n), sD, some (.ref m), none, none, none, none, none, none, none, none, none, none, none]) rfl (d.push (.lst [])) (by omega)
  have s02 : Stp n S S2 := (Stp.push n S _).trans s2
  have l1 : (S ++ [Cell.lst []]).length = m + 1 := by rw [hm]; exact List.length_append ..
  have g2 : S2[m]? = some (.lst (([] : List (List (Int × Int))).map gR)) := (s2.same m (by omega) (by omega)).trans (by rw [hm]; exact List.getElem?_concat_length ..)
  obtain ⟨en', S3, f1, rows, x3, x6, x7, rfl, f3, f4, f5, f6, f7⟩ := fo_st (g := gtName 3) (body := rowsB) 4 (fun i en S' => ∃ rows x3 x6 x7, en = [some (.ref n), sD, some (.ref m), x3, none, none, x6, x7, none, none, none, none, none, none] ∧ S'[m]? = some (.lst (rows.map gR)) ∧ rows.length = i ∧ (∀ r ∈ rows, Nbs r ∧ r.length ≤ 3) ∧ DiceAt (k + 1 + 9 * i) S' n ∧ Stp n S S')
    ((List.range (1 + r).toNat).map fun k => .int (0 + (k : Nat))) 0 _ S2 (by rw [List.length_map, List.length_range]; omega) ⟨[], none, none, none, rfl, g2, rfl, fun _ h => absurd h List.not_mem_nil, d2, s02⟩ (by
      rintro dd hd i en S1 hi ⟨rows, x3, x6, x7, rfl, c1, c2, c3, c4, c5⟩
      obtain ⟨row, S', y6, y7, e, h1, h2, h3, h4, h5⟩ := row_loop (x3 := some (.d dd)) (x6 := x6) (x7 := x7) c4 (by omega) c5 (by omega) hn c1 (by omega)
      refine ⟨_, _, S', rfl, e, rows ++ [row], some (.d dd), y6, y7, rfl, h3, by rw [List.length_append, c2]; rfl, ?_, h4.mono (by omega), h5⟩
      intro x hx
      rcases List.mem_append.mp hx with h | h
      · exact c3 x h
      · rw [List.mem_singleton.mp h]; exact ⟨h1, h2⟩)
  rw [List.length_map, List.length_range] at f4 f6
  cases rows with
  | nil => rw [List.length_nil] at f4; omega
  | cons w rest =>
  have hw := f5 w (List.mem_cons_self ..)
  obtain ⟨p, S4, e4, np, d4, s4⟩ := frac (en := [some (.ref n), sD, some (.ref m), x3, none, none, x6, x7, none, none, none, none, none, none]) rfl rfl (bot2_e _) bot2_ok (List.cons_ne_nil _ _) (by decide) f6 (by omega)
  have lm := get_len f3
  have g4 : S4[m]? = some (.lst ((w :: rest).map gR)) := (s4.same m (by omega) lm).trans f3
  have hl4 : (w :: rest).length ≤ 4 := by omega
  have ne : w :: rest ≠ [] := List.cons_ne_nil _ _
  generalize hT : w :: rest = T at *
  have ix0 : ixV S4 (.ref m) (.d (.int 0)) = some (.d (gR w)) := ixR g4 (by rw [← hT]; exact atI_zero _ _)
  let told : D := .lst [.str (mkS (tN p)), .str (mkS (tR w)), .str (mkS (tT T))]
  let E5 : En := [some (.ref n), sD, some (.ref m), x3, none, none, some (.d (gR w)), x7, some (.d (gN p)), some (.d (gT T)), none, none, none, none]
  let E6 : En := [some (.ref n), sD, some (.ref m), x3, some (.d told), none, some (.d (gR w)), x7, some (.d (gN p)), some (.d (gT T)), none, none, none, none]
  let calls : D := .lst [.tup [.glo "parse_number", .glo "_law_read_number", .str (mkS (tN p))], .tup [.glo "parse_row", .glo "_law_read_row", .str (mkS (tR w))]]
  let E7 : En := [some (.ref n), sD, some (.ref m), x3, some (.d told), some (.d calls), some (.d (gR w)), x7, some (.d (gN p)), some (.d (gT T)), none, none, none, none]
  have l3 : 3 ≤ sizeLine := by omega
  have tw : ∀ {x y q : D}, ([x, y, q] : List D).length ≤ sizeLine := by intro x y q; show 3 ≤ _; exact l3
  have tp : ∀ {en : En} {S : Sto} {x y q : ME} {a b c : D}, x en S = .ok (.d a) S → y en S = .ok (.d b) S → q en S = .ok (.d c) S → eTup (aCons x (aCons y (aCons q aNil))) en S = .ok (.d (.tup [a, b, c])) S := by
    intro en S x y q a b c h1 h2 h3
    unfold eTup
    rw [aCons_ok h1 (aCons_ok h2 (aCons_ok h3 (aNil_ok _ _))), bind_ok]
    exact if_pos l3
  have i0 : ∀ (en : En) (S : Sto), en[4]? = some (some (.d told)) → eBin ixV (eVar 4) (eC (.int 0)) en S = .ok (.d (.str (mkS (tN p)))) S := fun en S h => eBin_ok (var_ok h S) rfl rfl
  have i1 : ∀ (en : En) (S : Sto), en[4]? = some (some (.d told)) → eBin ixV (eVar 4) (eC (.int 1)) en S = .ok (.d (.str (mkS (tR w)))) S := fun en S h => eBin_ok (var_ok h S) rfl rfl
  have i2 : ∀ (en : En) (S : Sto), en[4]? = some (some (.d told)) → eBin ixV (eVar 4) (eC (.int 2)) en S = .ok (.d (.str (mkS (tT T)))) S := fun en S h => eBin_ok (var_ok h S) rfl rfl
  have lt := law_number_text np.sa np.sb S4
  rw [numT_mk] at lt
  obtain ⟨srep, hrep, hs⟩ := vals_rep np hw.1 hw.2 f5 hl4 ne S4
  obtain ⟨en8, S8, k1, b3, b10, b11, b12, b13, rfl, k2, k3⟩ := fo_st (g := gtTup 3 (gtCons (gtName 10) (gtCons (gtName 11) (gtCons (gtName 12) gtNil)))) (body := sFor (iR rng1V (aCons (eC (.int 12)) aNil)) (gtName 3) bentB) 3
    (fun i en S' => ∃ b3 b10 b11 b12 b13, en = [some (.ref n), sD, some (.ref m), b3, some (.d told), some (.d calls), some (.d (gR w)), x7, some (.d (gN p)), some (.d (gT T)), b10, b11, b12, b13] ∧ DiceAt (k + 60 + 36 * i) S' n ∧ Stp n S S')
    [.tup [.glo "parse_number", .glo "_law_read_number", .str (mkS (tN p))], .tup [.glo "parse_row", .glo "_law_read_row", .str (mkS (tR w))], .tup [.glo "parse_telling", .glo "_law_read_telling", .str (mkS (tT T))]] 0 E7 S4 (by show 0 + 3 ≤ 3; decide) ⟨x3, none, none, none, none, rfl, d4.mono (by omega), f7.trans s4⟩ (by
      rintro dd hd i en S1 hi ⟨b3, b10, b11, b12, b13, rfl, c1, c2⟩
      have : ∃ x y l, dd = .tup [.glo x, .glo y, .str (mkS l)] ∧ Cmp x y ∧ TB 1800 70 l := by
        rcases List.mem_cons.mp hd with h | hd
        · exact ⟨_, _, _, h, cmpN, (tN_tb np).mono (by decide) (by decide)⟩
        · rcases List.mem_cons.mp hd with h | hd
          · exact ⟨_, _, _, h, cmpR, (tR_tb hw.1 hw.2).mono (by decide) (by decide)⟩
          · exact ⟨_, _, _, List.mem_singleton.mp hd, cmpT, (tT_tb f5 hl4).mono (by decide) (by decide)⟩
      obtain ⟨x, y, l, rfl, hc, ht⟩ := this
      obtain ⟨y3, y13, S', e, h1, h2⟩ := bent_loop (a1 := sD) (a2 := some (.ref m)) (a3 := b3) (a4 := some (.d told)) (a5 := some (.d calls)) (a6 := some (.d (gR w))) (a7 := x7) (a8 := some (.d (gN p))) (a9 := some (.d (gT T))) (a13 := b13) hc ht c1 (by omega)
      exact ⟨_, _, S', rfl, e, y3, _, _, _, y13, rfl, h1.mono (by omega), c2.trans h2⟩)
  refine ⟨S8, stF_rt ?_, k2.mono (by show k + 60 + 36 * (0 + 3) ≤ _; omega), k3⟩
  show b__law_right [some (.ref n), none, none, none, none, none, none, none, none, none, none, none, none, none] S = _
  unfold b__law_right
  refine (seq_nx (set_ok (some_e _ _))).trans ?_
  refine (seq_nx (set_ok (x := .ref m) (S1 := S ++ [.lst []]) (by rw [hm]; exact lstM_ok (aNil_ok _ _) rfl (Nat.zero_le _)))).trans ?_
  refine (seq_nx (for_ok (rng_ok (r := 1 + r) (eBin_ok rfl e2 rfl) (by omega) (by omega)) f1)).trans ?_
  refine (seq_nx (en1 := E5) (s1 := S4) (par3_ok (aCons_ok e4 (aCons_ok (eBin_ok (a := .ref m) rfl rfl ix0) (aCons_ok (eCB_ok (aCons_ok (x := .ref m) rfl (aNil_ok _ _)) (tup_ref g4)) (aNil_ok _ _)))))).trans ?_
  refine (seq_nx (en1 := E6) (s1 := S4) (set_ok (lst_ok (aCons_ok (eFn_ok (aCons_ok rfl (aNil_ok _ _)) rfl rfl (format_number np S4)) (aCons_ok (eFn_ok (aCons_ok rfl (aNil_ok _ _)) rfl rfl (format_row hw.1 hw.2 S4)) (aCons_ok (eFn_ok (aCons_ok rfl (aNil_ok _ _)) rfl rfl (format_telling f5 hl4 ne S4)) (aNil_ok _ _)))) rfl tw))).trans ?_
  refine (seq_nx (en1 := E6) (s1 := S4) (if_f (tst_ok (eBin_ok (a := .d told) rfl (lst_ok (aCons_ok (eFn_ok (aCons_ok rfl (aNil_ok _ _)) rfl rfl lt) (aCons_ok (eFn_ok (aCons_ok rfl (aNil_ok _ _)) rfl rfl (law_row_text hw.1 hw.2 S4)) (aCons_ok (eFn_ok (aCons_ok rfl (aNil_ok _ _)) rfl rfl (law_telling_text f5 hl4 S4)) (aNil_ok _ _)))) rfl tw) (strs_same (tN_tb np).lt (tR_tb hw.1 hw.2).lt (tT_tb f5 hl4).lt S4))))).trans ?_
  refine (seq_nx (en1 := E6) (s1 := S4) (if_f (rep_same (d := .lst [gN p, gR w, gT T]) (lst_ok (aCons_ok (eFn_ok (aCons_ok (i0 _ _ rfl) (aNil_ok _ _)) rfl rfl (backN np S4)) (aCons_ok (eFn_ok (aCons_ok (i1 _ _ rfl) (aNil_ok _ _)) rfl rfl (backR hw.1 hw.2 S4)) (aCons_ok (eFn_ok (aCons_ok (i2 _ _ rfl) (aNil_ok _ _)) rfl rfl (backT f5 hl4 ne S4)) (aNil_ok _ _)))) rfl tw) (lst_ok (aCons_ok rfl (aCons_ok rfl (aCons_ok rfl (aNil_ok _ _)))) rfl tw) hrep hs))).trans ?_
  refine (seq_nx (en1 := E7) (s1 := S4) (set_ok (lst_ok (aCons_ok (tp rfl rfl (i0 _ _ rfl)) (aCons_ok (tp rfl rfl (i1 _ _ rfl)) (aNil_ok _ _))) rfl (by show 2 ≤ _; omega)))).trans ?_
  refine (seq_nx (for_ok (iv_ok (eBin_ok (a := .d calls) rfl (lst_ok (aCons_ok (tp rfl rfl (i2 _ _ rfl)) (aNil_ok _ _)) rfl (by show 1 ≤ _; omega)) (addL (fun z h => D.noConfusion (Vl.d.inj h)) (fun z h => D.noConfusion (Vl.d.inj h)) (fun z h => D.noConfusion (Vl.d.inj h)) rfl rfl (by show 2 + 1 ≤ _; omega))) rfl) k1)).trans ?_
  rfl
end L81
set_option Elab.async false
set_option linter.all false
set_option maxRecDepth 100000
set_option maxHeartbeats 1000000
namespace L81
open PySem PySem.Spec PyProof.Rows L2 Sm TL

/-! ## planted texts -/
def txA : List String := ["", "0", "-0", "00", "1/1", "2/4", "1/2", "-1/2", "1/-2", "1/0", "0/1", "+1", "1 ", " 1", "none", "1  2"]
def txB : List String := ["1 2", "1,2", "1, 2", "1/2 -3, none", "none, none", "none none", "1, ", ", 1", "1\n2", "1\n"]
def txC : List String := ["1/2/3", "007", "-", "/", "/2", "3/", "none,1", "0, 0, 0", "1 none"]
abbrev sDs (l : List String) : List D := l.map fun s => .str (Str.ofString s)
def txs : List String := txA ++ txB ++ ["--1"] ++ txC
theorem txs_ok : ∀ s ∈ txs, ((s.toList.map Char.toNat).all (· < 256) && decide ((s.toList.map Char.toNat).length ≤ 300)) = true := by decide +kernel
theorem tx_lit {s : String} (h : ((s.toList.map Char.toNat).all (· < 256) && decide ((s.toList.map Char.toNat).length ≤ 300)) = true) : ∃ l, Str.ofString s = mkS l ∧ Tx l := by
  rw [Bool.and_eq_true] at h
  have h2 := of_decide_eq_true h.2
  exact ⟨_, lit s _ rfl, (TB.short h2 fun c hc => of_decide_eq_true (List.all_eq_true.mp h.1 c hc)).tx (by decide) (by decide)⟩
def textB : MS := (sIf (eTst (eBin (eqV true) (eCB repV (aCons (eFn 2 M__law_spot (aCons (eVar 4) (aCons (eVar 6) aNil))) aNil)) (eCB repV (aCons (eFn 2 M__law_due (aCons (eVar 5) (aCons (eVar 6) aNil))) aNil)))) (sRet (eC (.bl false))) sNx)
theorem text_loop {x y : Str} {a0 a2 a3 a6 : Option Vl} (hc : Cmp x y) (S : Sto) : ∃ b6, sFor (iV (eVar 1)) (gtName 6) textB [a0, some (.d (.lst (sDs txs))), a2, a3, some (.d (.glo x)), some (.d (.glo y)), a6, none, none] S = .nx [a0, some (.d (.lst (sDs txs))), a2, a3, some (.d (.glo x)), some (.d (.glo y)), b6, none, none] S := by
  obtain ⟨en', f, b6, rfl⟩ := fo_inv (g := gtName 6) (body := textB) (fun en => ∃ b6, en = [a0, some (.d (.lst (sDs txs))), a2, a3, some (.d (.glo x)), some (.d (.glo y)), b6, none, none]) (S := S) (sDs txs) _ ⟨a6, rfl⟩ (fun d hd en he => by
    obtain ⟨b6, rfl⟩ := he
    obtain ⟨s, hs, rfl⟩ := List.mem_map.mp hd
    obtain ⟨l, e, t⟩ := tx_lit (txs_ok s hs)
    refine ⟨_, [a0, some (.d (.lst (sDs txs))), a2, a3, some (.d (.glo x)), some (.d (.glo y)), some (.d (.str (Str.ofString s))), none, none], rfl, ?_, some (.d (.str (Str.ofString s))), rfl⟩
    show textB [a0, some (.d (.lst (sDs txs))), a2, a3, some (.d (.glo x)), some (.d (.glo y)), some (.d (.str (Str.ofString s))), none, none] S = .nx [a0, some (.d (.lst (sDs txs))), a2, a3, some (.d (.glo x)), some (.d (.glo y)), some (.d (.str (Str.ofString s))), none, none] S
    rw [e]
    exact if_f (cmp_e hc t rfl rfl rfl S))
  exact ⟨b6, for_ok (iv_ok rfl rfl) f⟩
def callD : List D := [.tup [.glo "parse_number", .glo "_law_read_number"], .tup [.glo "parse_row", .glo "_law_read_row"], .tup [.glo "parse_telling", .glo "_law_read_telling"]]
def rightB : MS := (sIf (eNot (eTst (eFn 1 M__law_right (aCons (eVar 7) aNil)))) (sRet (eC (.bl false))) sNx)
def spotB : MS := (sSeq (sSet 7 (eFn 2 M__law_dice (aCons (eVar 0) (aCons (eVar 3) aNil)))) (sFor (iR rng1V (aCons (eC (.int 2)) aNil)) (gtName 8) rightB))
theorem spot_body {ns : List Int} (hn : ns.length ≤ 63) {spot : Nat} (hs : spot < 64) (a1 a2 a4 a5 a6 a7 a8 : Option Vl) (S : Sto) :
    ∃ b7 b8 S', spotB [some (.d (.scr ns)), a1, a2, some (.d (.int (spot : Int))), a4, a5, a6, a7, a8] S = .nx [some (.d (.scr ns)), a1, a2, some (.d (.int (spot : Int))), a4, a5, a6, b7, b8] S' := by
  obtain ⟨S1, e1, d1, _⟩ := dice hs hn S
  obtain ⟨en', S', f1, b8, rfl, _⟩ := fo_st (g := gtName 8) (body := rightB) 2 (fun i en S' => ∃ b8, en = [some (.d (.scr ns)), a1, a2, some (.d (.int (spot : Int))), a4, a5, a6, some (.ref S.length), b8] ∧ DiceAt (200 * i) S' S.length)
    ((List.range (2 : Int).toNat).map fun k => .int (0 + (k : Nat))) 0 [some (.d (.scr ns)), a1, a2, some (.d (.int (spot : Int))), a4, a5, a6, some (.ref S.length), a8] S1 (by rw [List.length_map, List.length_range]; decide) ⟨a8, rfl, d1⟩ (by
      rintro dd hd i en S1 hi ⟨b8, rfl, c1⟩
      obtain ⟨S2, e2, d2, _⟩ := law_right c1 (by omega)
      refine ⟨_, [some (.d (.scr ns)), a1, a2, some (.d (.int (spot : Int))), a4, a5, a6, some (.ref S.length), some (.d dd)], S2, rfl, ?_, _, rfl, d2.mono (by omega)⟩
      exact if_f (not_ok (b := true) (tst_ok (eFn_ok (aCons_ok rfl (aNil_ok _ _)) rfl rfl e2))))
  refine ⟨_, _, S', (seq_nx (set_ok (eFn_ok (aCons_ok rfl (aCons_ok rfl (aNil_ok _ _))) rfl rfl e1))).trans (for_ok (rng_ok rfl (by decide) (by decide)) f1)⟩
theorem law_true : ∀ ns : List Int, ns.length ≤ 63 → ∃ S, M_law [.d (.scr ns)] [] = .ok (.d (.bl true)) S := by
  intro ns hn
  have z : sizeLine = 16777216 := rfl
  let S1 : Sto := [.lst (sDs txA)]
  let S2 : Sto := [.lst (sDs txA), .lst (sDs (txA ++ txB))]
  let S3 : Sto := [.lst (sDs txA), .lst (sDs (txA ++ txB ++ ["--1"]))]
  let E : Option Vl → Option Vl → Option Vl → Option Vl → Option Vl → Option Vl → Option Vl → En := fun a2 a3 a4 a5 a6 a7 a8 => [some (.d (.scr ns)), some (.d (.lst (sDs txs))), a2, a3, a4, a5, a6, a7, a8]
  obtain ⟨en4, f4, b4, b5, b6, rfl⟩ := fo_inv (g := gtTup 2 (gtCons (gtName 4) (gtCons (gtName 5) gtNil))) (body := sFor (iV (eVar 1)) (gtName 6) textB) (fun en => ∃ b4 b5 b6, en = E (some (.d (.lst callD))) none b4 b5 b6 none none) (S := S3) callD (E (some (.d (.lst callD))) none none none none none none) ⟨_, _, _, rfl⟩ (fun d hd en he => by
    obtain ⟨b4, b5, b6, rfl⟩ := he
    have : ∃ x y, d = .tup [.glo x, .glo y] ∧ Cmp x y := by
      rcases List.mem_cons.mp hd with h | hd
      · exact ⟨_, _, h, cmpN⟩
      · rcases List.mem_cons.mp hd with h | hd
        · exact ⟨_, _, h, cmpR⟩
        · exact ⟨_, _, List.mem_singleton.mp hd, cmpT⟩
    obtain ⟨x, y, rfl, hc⟩ := this
    obtain ⟨y6, e⟩ := text_loop (a0 := some (.d (.scr ns))) (a2 := some (.d (.lst callD))) (a3 := none) (a6 := b6) hc S3
    exact ⟨_, _, rfl, e, _, _, _, rfl⟩)
  let cnt : Int := if (if ((ns.map D.int).length : Nat) < (6 : Int) then (((ns.map D.int).length : Nat) : Int) else 6) > (1 : Int) then (if ((ns.map D.int).length : Nat) < (6 : Int) then (((ns.map D.int).length : Nat) : Int) else 6) else 1
  have hc0 : 0 ≤ cnt ∧ cnt < 7 := by
    have : ∀ a : Int, 0 ≤ a → 0 ≤ (if (if a < 6 then a else 6) > (1 : Int) then (if a < 6 then a else 6) else 1) ∧ (if (if a < 6 then a else 6) > (1 : Int) then (if a < 6 then a else 6) else 1) < 7 := fun a ha => by
      split <;> split <;> omega
    exact this _ (by omega)
  obtain ⟨en5, S5, f5, _⟩ := fo_st (g := gtName 3) (body := spotB) 6 (fun _ en _ => ∃ b3 b7 b8, en = E (some (.d (.lst callD))) b3 b4 b5 b6 b7 b8)
    ((List.range cnt.toNat).map fun k => .int (0 + (k : Nat))) 0 (E (some (.d (.lst callD))) none b4 b5 b6 none none) S3 (by rw [List.length_map, List.length_range]; omega) ⟨_, _, _, rfl⟩ (by
      rintro dd hd i en S hi ⟨b3, b7, b8, rfl⟩
      obtain ⟨j, hj, rfl⟩ := List.mem_map.mp hd
      have hj := List.mem_range.mp hj
      obtain ⟨y7, y8, S', e⟩ := spot_body hn (spot := j) (by omega) (some (.d (.lst (sDs txs)))) (some (.d (.lst callD))) b4 b5 b6 b7 b8 S
      refine ⟨_, _, S', rfl, ?_, some (.d (.int (j : Int))), y7, y8, rfl⟩
      rw [Int.zero_add]
      exact e)
  refine ⟨[], pu_rt (ds := [.scr ns]) (v := .d (.bl true)) (S' := S5) rfl ?_ rfl⟩
  show b_law [some (.d (.scr ns)), none, none, none, none, none, none, none, none] [] = _
  unfold b_law
  refine (seq_nx (en1 := [some (.d (.scr ns)), some (.ref 0), none, none, none, none, none, none, none]) (s1 := S1) rfl).trans ?_
  refine (seq_nx (en1 := [some (.d (.scr ns)), some (.ref 1), none, none, none, none, none, none, none]) (s1 := S2) rfl).trans ?_
  refine (seq_nx (en1 := [some (.d (.scr ns)), some (.ref 1), none, none, none, none, none, none, none]) (s1 := S3) rfl).trans ?_
  refine (seq_nx (en1 := [some (.d (.scr ns)), some (.d (.lst (sDs txs))), none, none, none, none, none, none, none]) (s1 := S3) rfl).trans ?_
  refine (seq_nx (en1 := E (some (.d (.lst callD))) none none none none none none) (s1 := S3) rfl).trans ?_
  refine (seq_nx (for_ok (iv_ok rfl rfl) f4)).trans ?_
  refine (seq_nx (for_ok (rng_ok (r := cnt) (eCB_ok (aCons_ok rfl (aCons_ok (eCB_ok (aCons_ok rfl (aCons_ok (eCB_ok (aCons_ok rfl (aNil_ok _ _)) rfl) (aNil_ok _ _))) rfl) (aNil_ok _ _))) rfl) hc0.1 (by omega)) f5)).trans ?_
  rfl
end L81
set_option Elab.async false
set_option linter.all false
set_option maxRecDepth 100000
set_option maxHeartbeats 0
namespace L81
open PySem PySem.Spec PyProof.Rows L2 Sm
def lo0 : List Str := ["CourtError", "InvalidFraction", "InvalidRow", "InvalidHearing", "ParseError", "TooMany", "is_integer", "common_divisor", "is_number", "require_number", "is_plain_row", "MAX_TEXT", "MAX_DIGITS", "MOST_WRITTEN", "DIGITS", "LINE_END", "NONE", "COMMA", "require_text", "require_sizes", "number_text", "row_text", "format_number", "is_any_row", "format_row", "whole_in", "number_in", "row_in", "lines_of", "one_line"]
def lo1 : List Str := ["parse_number", "parse_row", "telling_text", "format_telling", "telling_in", "parse_telling", "_law_dice", "_law_roll", "_law_pick", "_law_fr", "_law_number_text", "_law_row_text", "_law_telling_text", "_law_read_whole", "_law_read_number", "_law_read_row", "_law_read_telling", "_law_bent", "_law_spot", "_law_due", "_law_right"]
def loose : List Str := lo0 ++ lo1
abbrev R : PySem.W.OpenRow := PySem.W.OpenLaw.row PySem.Challenge.rw_amongliars_k81_whole_texts_of_numbers_ro
abbrev hk : PySem.W.Hook := hookX PySem.Challenge.pw_amongliars_k81_whole_texts_of_numbers_ro.main.file fa fn ini exs 6
def ob (s : PySem.W.SharedT) : AlX := obsXG PySem.Challenge.pw_amongliars_k81_whole_texts_of_numbers_ro.main.file fa fn ini exs 6 (HandSHeadRun.getT s)
theorem ob_eq (s : PySem.W.SharedT) : ob s = hk.obs s.abs := obsXG_eq _ _ _ _ _ (HandSHeadRun.getT_eq s)
theorem run (w : World) : HandSHeadRun.RunEq R (PySem.W.view R.prog [56]) hk ob 3000 loose w := by
  intro os
  kernel_rfl
end L81
open PySem PySem.W PySem.Calls PyProof.Rows
theorem PySem.Challenge.cw_amongliars_k81_whole_texts_of_numbers_ro_holds : PySem.Challenge.rw_amongliars_k81_whole_texts_of_numbers_ro.Holds := by
  w_on; o_law
  refine HandSHeadRun.head_any (r := OpenLaw.row PySem.Challenge.rw_amongliars_k81_whole_texts_of_numbers_ro) (q := view (OpenLaw.row PySem.Challenge.rw_amongliars_k81_whole_texts_of_numbers_ro).prog [56]) (H := L81.hk) (ob := L81.ob) (M := 3000) (loose := L81.loose) (d := HandSHeadRun.topDef (OpenLaw.row PySem.Challenge.rw_amongliars_k81_whole_texts_of_numbers_ro).prog 56) (kwd := []) L81.ob_eq
    (by kernel_rfl) (fun s => by kernel_rfl) L81.run (by kernel_rfl) (by kernel_rfl) (by kernel_rfl) (by rfl) (by first | assumption | decide +kernel) (by decide +kernel) ⟨rfl, rfl, rfl, rfl, rfl, by decide +kernel⟩ ?hw ?hc
  case hw => w_witness2
  case hc =>
    refine Sm.walk_ofG (l := PySem.Challenge.rw_amongliars_k81_whole_texts_of_numbers_ro) (n := 63) (k := L81.lawK) (x := "script") rfl (by decide) (by kernel_rfl) ⟨rfl, by decide, by decide⟩ ?F
    intro w mg fa h Y G hmg0
    obtain ⟨K, KX, c⟩ := Y
    have hmg : mg ("law" : PySem.Str) = some (.ref fa) := by
      have e : (HandSHeadRun.topDef (OpenLaw.row PySem.Challenge.rw_amongliars_k81_whole_texts_of_numbers_ro).prog 56).name = ("law" : PySem.Str) := by kernel_rfl
      rw [← e]
      exact hmg0
    obtain ⟨fd, F⟩ := Sm.SaysX.def_ c L81.lawIx (d := L81.d_law) rfl
    have gg := Sm.gl2_of KX G
    have ef := hmg.symm.trans (L81.g_law gg c)
    cases ef
    have b := L2.FunD.bindsA (ps := ["script"]) F fun _ _ _ _ _ _ us hl => match us, hl with | [_], _ => rfl
    exact ⟨K, fd, L81.M_law, KX, fun s v => b s [v] rfl, L81.law_true, fun base _ _ => L81.all_ok gg c rfl F⟩
/-! END 56 PySem.Challenge.pw_amongliars_k81_whole_texts_of_numbers_ro PySem.Challenge.rw_amongliars_k81_whole_texts_of_numbers_ro -/
