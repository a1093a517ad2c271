import PyProof.Rows.All
import PySem.Challenge.RW_pointrents_k56_whole_desks_through_deeds
import Wide.All
import OpenK.AllK
import Wide.FinOn
import Wide.Once
import HandS.ForMost
import HandS.ForExc
import HandS.TryMany
import HandS.Lambda
import HandS.Property
import HandS.IsInst
import HandS.DictComp
import HandS.ListItems
import HandS.Conv
import HandS.More
import HandS.Defaults
import HandS.TupAny
import HandS.WideBits
import HandS.RaiseMore
import HandS.Style
import HandS.HeadWalk
import HandS.HeadHook4
import HandS.Head2
import HandS.Flow
import HandS.Steps
import HandS.Star
import HandS.Zip
import HandS.Text
import HandS.Codes
import HandS.Walk
import KE.GoesZip
import KE.KDictDisplayH
import HandS.SlotsOwn
import HandS.ExcInit
import HandS.ExcField
import HandS.ExcSuper
import KE.KDictKeyed
import KE.KExcSuper
set_option Elab.async false
set_option linter.all false
set_option maxRecDepth 100000
set_option maxHeartbeats 4000000
namespace K56
abbrev Sd := Int × Int × Int
structure Pt where
  every : Int
  first : Int
  rate : Int
  low : Option Int
  top : Option Int
  keep : Int
  plus : Int
  deriving DecidableEq
def mn (i j : Int) : Int := if j < i then j else i
def mx (i j : Int) : Int := if j > i then j else i
def lowOf (c : Pt) (w : Int) : Int := match c.low with | none => w | some f => if w < f then f else w
def raiseOf (c : Pt) (w : Int) : Int := match c.top with | none => lowOf c w | some t => if w > t then t else lowOf c w
def behind (c : Pt) (s : Sd) (m : Int) : Sd × Int :=
  if s.1 > 1 then ((s.1 - 1, s.2.1 + m, s.2.2), 0)
  else ((c.every, 0, mn c.keep (mx 0 (c.rate * (s.2.1 + m) + s.2.2 - raiseOf c (c.rate * (s.2.1 + m) + s.2.2)))), raiseOf c (c.rate * (s.2.1 + m) + s.2.2) + c.plus)
def begun (c : Pt) : Sd := (c.first, 0, 0)
/-- a clause as the law draws them -/
structure Ok (c : Pt) : Prop where
  ev : c.every = 1 ∨ c.every = 2
  fi : c.first = c.every
  r0 : 0 ≤ c.rate
  r1 : c.rate ≤ 5
  l0 : ∀ f, c.low = some f → -20 ≤ f ∧ f ≤ 20
  t0 : ∀ t, c.top = some t → -20 ≤ t ∧ t ≤ 20
  lt : ∀ f t, c.low = some f → c.top = some t → f ≤ t
  k0 : 0 ≤ c.keep
  k1 : c.keep ≤ 3
  kt : c.top = none → c.keep = 0
  p0 : -9 ≤ c.plus
  p1 : c.plus ≤ 9
def ks : List Int := [0, 1, 2, 3]
def sds (c : Pt) (ms : List Int) : List Sd :=
  if c.every = 1 then ks.map fun k => (1, 0, k) else (ks.map fun k => (2, 0, k)) ++ ms.flatMap fun m => ks.map fun k => (1, m, k)
theorem mem_ks {k : Int} : k ∈ ks ↔ 0 ≤ k ∧ k ≤ 3 := by
  unfold ks
  simp only [List.mem_cons, List.not_mem_nil, or_false]
  omega
theorem mem_sds {c : Pt} {ms : List Int} {s : Sd} : s ∈ sds c ms ↔ (0 ≤ s.2.2 ∧ s.2.2 ≤ 3) ∧ if c.every = 1 then s.1 = 1 ∧ s.2.1 = 0 else (s.1 = 2 ∧ s.2.1 = 0) ∨ (s.1 = 1 ∧ s.2.1 ∈ ms) := by
  obtain ⟨a, b, d⟩ := s
  unfold sds
  split
  · simp only [List.mem_map, mem_ks, Prod.mk.injEq]
    constructor
    · rintro ⟨k, hk, rfl, rfl, rfl⟩; exact ⟨hk, rfl, rfl⟩
    · rintro ⟨hk, h1, h2⟩; exact ⟨d, hk, h1.symm, h2.symm, rfl⟩
  · simp only [List.mem_append, List.mem_map, List.mem_flatMap, mem_ks, Prod.mk.injEq]
    constructor
    · rintro (⟨k, hk, rfl, rfl, rfl⟩ | ⟨m, hm, k, hk, rfl, rfl, rfl⟩)
      · exact ⟨hk, .inl ⟨rfl, rfl⟩⟩
      · exact ⟨hk, .inr ⟨rfl, hm⟩⟩
    · rintro ⟨hk, ⟨h1, h2⟩ | ⟨h1, h2⟩⟩
      · exact .inl ⟨d, hk, h1.symm, h2.symm, rfl⟩
      · exact .inr ⟨b, h2, d, hk, h1.symm, rfl, rfl⟩
theorem len_flat {α : Type} (f : Int → List α) (n : Nat) (hf : ∀ m, (f m).length = n) : ∀ ms : List Int, (ms.flatMap f).length = ms.length * n
  | [] => by simp
  | m :: ms => by rw [List.flatMap_cons, List.length_append, len_flat f n hf ms, hf, List.length_cons, Nat.succ_mul, Nat.add_comm]
theorem sds_len (c : Pt) {ms : List Int} (h : ms.length ≤ 3) : (sds c ms).length ≤ 16 := by
  unfold sds
  split
  · simp [ks]
  · rw [List.length_append, len_flat _ 4 (fun m => by simp [ks])]
    simp only [List.length_map, ks, List.length_cons, List.length_nil]
    omega
theorem begun_in {c : Pt} (h : Ok c) (ms : List Int) : begun c ∈ sds c ms := by
  rw [mem_sds]
  unfold begun
  refine ⟨⟨Int.le_refl 0, by show (0:Int) ≤ 3; decide⟩, ?_⟩
  have := h.fi
  rcases h.ev with e | e
  · rw [if_pos e]; exact ⟨by show c.first = 1; omega, rfl⟩
  · rw [if_neg (by omega)]; exact .inl ⟨by show c.first = 2; omega, rfl⟩
theorem raise_bound {c : Pt} (h : Ok c) {w : Int} (h1 : -33 ≤ w) (h2 : w ≤ 33) : -33 ≤ raiseOf c w ∧ raiseOf c w ≤ 33 := by
  have hl : -33 ≤ lowOf c w ∧ lowOf c w ≤ 33 := by
    unfold lowOf
    cases e : c.low with
    | none => exact ⟨h1, h2⟩
    | some f =>
      have := h.l0 f e
      dsimp only
      split <;> omega
  unfold raiseOf
  cases e : c.top with
  | none => exact hl
  | some t =>
    have := h.t0 t e
    dsimp only
    split <;> omega
theorem mul_bound {r p : Int} (h0 : 0 ≤ r) (h1 : r ≤ 5) (h2 : -6 ≤ p) (h3 : p ≤ 6) : -30 ≤ r * p ∧ r * p ≤ 30 := by
  have : r = 0 ∨ r = 1 ∨ r = 2 ∨ r = 3 ∨ r = 4 ∨ r = 5 := by omega
  rcases this with e | e | e | e | e | e <;> subst e <;> omega
structure Band (ms : List Int) : Prop where
  len : ms.length ≤ 3
  le : ∀ m ∈ ms, -3 ≤ m ∧ m ≤ 3
theorem behind_in {c : Pt} (h : Ok c) {ms : List Int} (hb : Band ms) {s : Sd} (hs : s ∈ sds c ms) {m : Int} (hm : m ∈ ms) :
    (behind c s m).1 ∈ sds c ms ∧ -42 ≤ (behind c s m).2 ∧ (behind c s m).2 ≤ 42 := by
  rw [mem_sds] at hs
  obtain ⟨⟨hk0, hk1⟩, hs⟩ := hs
  have hm3 := hb.le m hm
  have hp : -3 ≤ s.2.1 ∧ s.2.1 ≤ 3 := by
    split at hs
    · omega
    · rcases hs with z | z
      · omega
      · exact hb.le _ z.2
  unfold behind
  split
  · rename_i h1
    refine ⟨?_, by show (-42:Int) ≤ 0; decide, by show (0:Int) ≤ 42; decide⟩
    rw [mem_sds]
    refine ⟨⟨hk0, hk1⟩, ?_⟩
    split
    · rename_i e; rw [if_pos e] at hs; dsimp only; omega
    · rename_i e
      rw [if_neg e] at hs
      refine .inr ⟨?_, ?_⟩
      · dsimp only; omega
      · rcases hs with z | z
        · show s.2.1 + m ∈ ms
          rw [z.2, Int.zero_add]; exact hm
        · omega
  · have hmul := mul_bound (p := s.2.1 + m) h.r0 h.r1 (by omega) (by omega)
    have hr := raise_bound h (w := c.rate * (s.2.1 + m) + s.2.2) (by omega) (by omega)
    have := h.p0
    have := h.p1
    refine ⟨?_, by dsimp only; omega, by dsimp only; omega⟩
    rw [mem_sds]
    refine ⟨?_, ?_⟩
    · have := h.k0
      have := h.k1
      unfold mn mx
      dsimp only
      split <;> split <;> omega
    · rcases h.ev with e | e
      · rw [if_pos e]; exact ⟨e, rfl⟩
      · rw [if_neg (by omega)]; exact .inl ⟨e, rfl⟩
end K56
namespace K56
/-! a list without repeats within another one is not longer -/
theorem nodup_le {α : Type} [DecidableEq α] : ∀ {l r : List α}, l.Nodup → (∀ x ∈ l, x ∈ r) → l.length ≤ r.length
  | [], _, _, _ => Nat.zero_le _
  | a :: l, r, hn, hs => by
    have hn' := List.nodup_cons.mp hn
    have ha : a ∈ r := hs a (List.mem_cons_self ..)
    have h1 : l.length ≤ (r.erase a).length := nodup_le hn'.2 fun x hx => by
      have hxa : x ≠ a := fun e => hn'.1 (e ▸ hx)
      exact (List.mem_erase_of_ne hxa).mpr (hs x (List.mem_cons_of_mem _ hx))
    have h2 := List.length_erase_of_mem ha
    have h3 : 0 < r.length := List.length_pos_of_mem ha
    rw [List.length_cons]
    omega

/-! ### webs -/
abbrev Step := Nat × Int × Int
structure Wb (N : Type) where
  nodes : List N
  steps : List (List Step)
  orig : List (Option (Nat × Int))
/-- within a turn: nodes, origins, found -/
structure In (N : Type) where
  nodes : List N
  orig : List (Option (Nat × Int))
  found : List Step
section
variable {N : Type} [DecidableEq N]
/-- the place of a node -/
def ix (l : List N) (x : N) : Option Nat := l.idxOf? x
def place (here : Nat) (m : Int) (x : N) (nodes : List N) (orig : List (Option (Nat × Int))) : List N × List (Option (Nat × Int)) × Nat :=
  match ix nodes x with
  | some i => (nodes, orig, i)
  | none => (nodes ++ [x], orig ++ [some (here, m)], nodes.length)
def put1 (after : N → Int → N × Int) (here : Nat) (x : N) (st : In N) (m : Int) : In N :=
  ⟨(place here m (after x m).1 st.nodes st.orig).1, (place here m (after x m).1 st.nodes st.orig).2.1, st.found ++ [((place here m (after x m).1 st.nodes st.orig).2.2, (after x m).2, m)]⟩
def turnAt (after : N → Int → N × Int) (ms : List Int) (here : Nat) (x : N) (w : Wb N) : In N := ms.foldl (put1 after here x) ⟨w.nodes, w.orig, []⟩
def turn (after : N → Int → N × Int) (ms : List Int) (w : Wb N) : Wb N :=
  match w.nodes[w.steps.length]? with
  | none => w
  | some x => ⟨(turnAt after ms w.steps.length x w).nodes, w.steps ++ [(turnAt after ms w.steps.length x w).found], (turnAt after ms w.steps.length x w).orig⟩
def build (after : N → Int → N × Int) (ms : List Int) : Nat → Wb N → Wb N
  | 0, w => w
  | k + 1, w => if w.steps.length < w.nodes.length then build after ms k (turn after ms w) else w
def web (after : N → Int → N × Int) (ms : List Int) (start : N) : Wb N := build after ms 600 ⟨[start], [], [none]⟩

theorem ix_some {l : List N} {x : N} {i : Nat} (h : ix l x = some i) : i < l.length ∧ l[i]? = some x := by
  unfold ix at h
  rw [List.idxOf?_eq_some_iff] at h
  obtain ⟨hi, e, _⟩ := h
  exact ⟨hi, by rw [List.getElem?_eq_getElem hi, e]⟩
theorem ix_none {l : List N} {x : N} (h : ix l x = none) : x ∉ l := by
  unfold ix at h
  rw [List.idxOf?_eq_none_iff] at h
  exact h

/-- what holds of a web being built: S all that can be come to, G the greatest gain -/
structure Good (after : N → Int → N × Int) (ms : List Int) (S : List N) (G : Int) : Prop where
  closed : ∀ x ∈ S, ∀ m ∈ ms, (after x m).1 ∈ S ∧ -G ≤ (after x m).2 ∧ (after x m).2 ≤ G
  small : S.length < 600
structure WOk (ms : List Int) (S : List N) (G : Int) (w : Wb N) : Prop where
  nd : w.nodes.Nodup
  sub : ∀ x ∈ w.nodes, x ∈ S
  pos : 0 < w.nodes.length
  le : w.steps.length ≤ w.nodes.length
  ol : w.orig.length = w.nodes.length
  o0 : w.orig[0]? = some none
  org : ∀ j, 0 < j → j < w.nodes.length → ∃ (h : Nat) (m : Int), w.orig[j]? = some (some (h, m)) ∧ h < j ∧ h < w.steps.length ∧ m ∈ ms ∧ ∃ (g : Int) (l : List Step), w.steps[h]? = some l ∧ (j, g, m) ∈ l
  st : ∀ (h : Nat) (l : List Step), w.steps[h]? = some l → ∀ s ∈ l, s.1 < w.nodes.length ∧ -G ≤ s.2.1 ∧ s.2.1 ≤ G ∧ s.2.2 ∈ ms
/-- within the turn at here -/
structure IOk (ms : List Int) (S : List N) (G : Int) (w : Wb N) (i : In N) : Prop where
  nd : i.nodes.Nodup
  sub : ∀ x ∈ i.nodes, x ∈ S
  ge : w.nodes.length ≤ i.nodes.length
  ol : i.orig.length = i.nodes.length
  o0 : i.orig[0]? = some none
  org : ∀ j, 0 < j → j < i.nodes.length → ∃ (h : Nat) (m : Int), i.orig[j]? = some (some (h, m)) ∧ h < j ∧ m ∈ ms ∧ ((h < w.steps.length ∧ ∃ (g : Int) (l : List Step), w.steps[h]? = some l ∧ (j, g, m) ∈ l) ∨ (h = w.steps.length ∧ ∃ g : Int, (j, g, m) ∈ i.found))
  st : ∀ s ∈ i.found, s.1 < i.nodes.length ∧ -G ≤ s.2.1 ∧ s.2.1 ≤ G ∧ s.2.2 ∈ ms
theorem WOk.inn {ms : List Int} {S : List N} {G : Int} {w : Wb N} (h : WOk ms S G w) : IOk ms S G w ⟨w.nodes, w.orig, []⟩ where
  nd := h.nd
  sub := h.sub
  ge := Nat.le_refl _
  ol := h.ol
  o0 := h.o0
  org := fun j h0 h1 => by
    obtain ⟨a, m, e, l, q, hm, r⟩ := h.org j h0 h1
    exact ⟨a, m, e, l, hm, .inl ⟨q, r⟩⟩
  st := fun s hs => by cases hs
theorem IOk.put {after : N → Int → N × Int} {ms : List Int} {S : List N} {G : Int} (gd : Good after ms S G) {w : Wb N} {i : In N} (h : IOk ms S G w i) (hw : w.steps.length < w.nodes.length) {x : N} (hx : x ∈ S) {m : Int} (hm : m ∈ ms) :
    IOk ms S G w (put1 after w.steps.length x i m) := by
  obtain ⟨c1, c2, c3⟩ := gd.closed x hx m hm
  unfold put1 place
  cases e : ix i.nodes (after x m).1 with
  | some k =>
    obtain ⟨k1, k2⟩ := ix_some e
    refine ⟨h.nd, h.sub, h.ge, h.ol, h.o0, fun j h0 h1 => ?_, fun s hs => ?_⟩
    · obtain ⟨a, m', e1, l1, hm', r⟩ := h.org j h0 h1
      refine ⟨a, m', e1, l1, hm', r.imp (fun z => z) fun ⟨z1, g, z2⟩ => ⟨z1, g, List.mem_append_left _ z2⟩⟩
    · rcases List.mem_append.mp hs with z | z
      · exact h.st s z
      · rw [List.mem_singleton] at z
        subst z
        exact ⟨k1, c2, c3, hm⟩
  | none =>
    have hn := ix_none e
    dsimp only
    refine ⟨?_, fun y hy => ?_, ?_, ?_, ?_, fun j h0 h1 => ?_, fun s hs => ?_⟩
    · rw [List.nodup_append]
      refine ⟨h.nd, by simp, fun a ha b hb => ?_⟩
      rw [List.mem_singleton] at hb
      rintro rfl
      exact hn (hb ▸ ha)
    · rcases List.mem_append.mp hy with z | z
      · exact h.sub y z
      · rw [List.mem_singleton] at z
        rw [z]; exact c1
    · rw [List.length_append]; have := h.ge; omega
    · simp [h.ol]
    · rw [List.getElem?_append_left]
      · exact h.o0
      · have := h.ol; have := h.ge; omega
    · rw [List.length_append, List.length_singleton] at h1
      by_cases hj : j < i.nodes.length
      · obtain ⟨a, m', e1, l1, hm', r⟩ := h.org j h0 hj
        refine ⟨a, m', ?_, l1, hm', r.imp (fun z => z) fun ⟨z1, g, z2⟩ => ⟨z1, g, List.mem_append_left _ z2⟩⟩
        rw [List.getElem?_append_left (by have := h.ol; omega)]; exact e1
      · have ej : j = i.nodes.length := by omega
        subst ej
        refine ⟨w.steps.length, m, ?_, by have := h.ge; omega, hm, .inr ⟨rfl, (after x m).2, List.mem_append_right _ (by simp)⟩⟩
        rw [List.getElem?_append_right (by have := h.ol; omega)]
        have e0 : i.nodes.length - i.orig.length = 0 := by have := h.ol; omega
        rw [e0]; rfl
    · rw [List.length_append, List.length_singleton]
      rcases List.mem_append.mp hs with z | z
      · obtain ⟨a, b⟩ := h.st s z
        exact ⟨by omega, b⟩
      · rw [List.mem_singleton] at z
        subst z
        exact ⟨by dsimp only; omega, c2, c3, hm⟩
theorem IOk.fold {after : N → Int → N × Int} {ms : List Int} {S : List N} {G : Int} (gd : Good after ms S G) {w : Wb N} (hw : w.steps.length < w.nodes.length) {x : N} (hx : x ∈ S) :
    ∀ (l : List Int) (i : In N), (∀ m ∈ l, m ∈ ms) → IOk ms S G w i → IOk ms S G w (l.foldl (put1 after w.steps.length x) i)
  | [], _, _, h => h
  | m :: l, i, hl, h => IOk.fold gd hw hx l _ (fun m' hm' => hl m' (List.mem_cons_of_mem _ hm')) (h.put gd hw hx (hl m (List.mem_cons_self ..)))
theorem WOk.at {ms : List Int} {S : List N} {G : Int} {w : Wb N} (h : WOk ms S G w) (hw : w.steps.length < w.nodes.length) : ∃ x, w.nodes[w.steps.length]? = some x ∧ x ∈ S :=
  ⟨w.nodes[w.steps.length], List.getElem?_eq_getElem hw, h.sub _ (List.getElem_mem hw)⟩
theorem WOk.turn {after : N → Int → N × Int} {ms : List Int} {S : List N} {G : Int} (gd : Good after ms S G) {w : Wb N} (h : WOk ms S G w) (hw : w.steps.length < w.nodes.length) : WOk ms S G (turn after ms w) := by
  obtain ⟨x, e, hx⟩ := h.at hw
  have q := IOk.fold gd hw hx ms _ (fun _ z => z) h.inn
  unfold K56.turn turnAt
  rw [e]
  dsimp only
  refine ⟨q.nd, q.sub, by have := q.ge; dsimp only; omega, ?_, q.ol, q.o0, fun j h0 h1 => ?_, fun a l hl s hs => ?_⟩
  · have := q.ge
    rw [List.length_append, List.length_singleton]
    dsimp only
    omega
  · obtain ⟨a, m, e1, l1, hm, r⟩ := q.org j h0 h1
    refine ⟨a, m, e1, l1, ?_, hm, ?_⟩
    · rw [List.length_append, List.length_singleton]
      rcases r with ⟨z, _⟩ | ⟨z, _⟩ <;> omega
    · rcases r with ⟨z, g, l, z1, z2⟩ | ⟨z, g, z2⟩
      · exact ⟨g, l, by rw [List.getElem?_append_left z]; exact z1, z2⟩
      · exact ⟨g, _, by rw [z, List.getElem?_concat_length], z2⟩
  · dsimp only at hl
    by_cases ha : a < w.steps.length
    · rw [List.getElem?_append_left ha] at hl
      obtain ⟨b1, b2⟩ := h.st a l hl s hs
      have hge : w.nodes.length ≤ _ := q.ge
      exact ⟨Nat.lt_of_lt_of_le b1 hge, b2⟩
    · have hlt := (List.getElem?_eq_some_iff.mp hl).1
      rw [List.length_append, List.length_singleton] at hlt
      have ea : a = w.steps.length := by omega
      rw [ea, List.getElem?_concat_length] at hl
      cases hl
      exact q.st s hs
theorem WOk.start {ms : List Int} {S : List N} {G : Int} {x : N} (h : x ∈ S) : WOk ms S G (⟨[x], [], [none]⟩ : Wb N) where
  nd := by simp
  sub := fun y hy => by rw [List.mem_singleton] at hy; rw [hy]; exact h
  pos := Nat.zero_lt_one
  le := Nat.zero_le _
  ol := rfl
  o0 := rfl
  org := fun j h0 h1 => by
    have h1 : j < 1 := h1
    omega
  st := fun h l hl => by simp at hl
theorem WOk.small {after : N → Int → N × Int} {ms : List Int} {S : List N} {G : Int} (gd : Good after ms S G) {w : Wb N} (h : WOk ms S G w) : w.nodes.length < 600 :=
  Nat.lt_of_le_of_lt (nodup_le h.nd h.sub) gd.small
theorem IOk.small {after : N → Int → N × Int} {ms : List Int} {S : List N} {G : Int} (gd : Good after ms S G) {w : Wb N} {i : In N} (h : IOk ms S G w i) : i.nodes.length < 600 :=
  Nat.lt_of_le_of_lt (nodup_le h.nd h.sub) gd.small
theorem turn_len {after : N → Int → N × Int} {ms : List Int} {S : List N} {G : Int} {w : Wb N} (h : WOk ms S G w) (hw : w.steps.length < w.nodes.length) : (turn after ms w).steps.length = w.steps.length + 1 := by
  obtain ⟨x, e, _⟩ := h.at hw
  unfold turn
  rw [e]
  dsimp only
  rw [List.length_append, List.length_singleton]
theorem build_ok {after : N → Int → N × Int} {ms : List Int} {S : List N} {G : Int} (gd : Good after ms S G) : ∀ (k : Nat) (w : Wb N), WOk ms S G w → 600 ≤ w.steps.length + k → WOk ms S G (build after ms k w) ∧ (build after ms k w).steps.length = (build after ms k w).nodes.length
  | 0, w, h, hk => by
    have := h.small gd
    have := h.le
    omega
  | k + 1, w, h, hk => by
    unfold build
    split
    · rename_i hw
      exact build_ok gd k _ (h.turn gd hw) (by rw [turn_len h hw]; omega)
    · rename_i hw
      exact ⟨h, by have := h.le; omega⟩
theorem web_ok {after : N → Int → N × Int} {ms : List Int} {S : List N} {G : Int} (gd : Good after ms S G) {x : N} (h : x ∈ S) : WOk ms S G (web after ms x) ∧ (web after ms x).steps.length = (web after ms x).nodes.length :=
  build_ok gd 600 _ (WOk.start h) (by show 600 ≤ 0 + 600; omega)
/-- the loop's own equation -/
theorem build_turn {after : N → Int → N × Int} {ms : List Int} {S : List N} {G : Int} (gd : Good after ms S G) {w : Wb N} (h : WOk ms S G w) (hw : w.steps.length < w.nodes.length) :
    build after ms (600 - (turn after ms w).steps.length) (turn after ms w) = build after ms (600 - w.steps.length) w := by
  have h1 := h.small gd
  rw [turn_len h hw]
  have e : 600 - w.steps.length = (600 - (w.steps.length + 1)) + 1 := by omega
  rw [e]
  show _ = if _ then _ else _
  rw [if_pos hw]
theorem build_end {after : N → Int → N × Int} {ms : List Int} {w : Wb N} (hw : ¬ w.steps.length < w.nodes.length) (k : Nat) : build after ms k w = w := by
  cases k with
  | zero => rfl
  | succ k => show (if _ then _ else _) = _; rw [if_neg hw]
end
end K56
namespace K56
theorem foldl_take_succ {α β : Type} (f : β → α → β) (a : β) {l : List α} {i : Nat} {x : α} (h : l[i]? = some x) : (l.take (i + 1)).foldl f a = f ((l.take i).foldl f a) x := by
  rw [List.take_add_one, h]
  simp [List.foldl_append]
/-! ### the greatest sums -/
abbrev OI := Option Int
def relax (k : Int) (f : List OI) (s : Step) : List OI :=
  match f[s.1]? with
  | some (some v) => if k + s.2.1 > v then f.set s.1 (some (k + s.2.1)) else f
  | _ => f.set s.1 (some (k + s.2.1))
def relaxAll (steps : List (List Step)) (f : List OI) (p : OI × Nat) : List OI :=
  match p.1 with
  | none => f
  | some k => (steps.getD p.2 []).foldl (relax k) f
def oneOn (steps : List (List Step)) (best : List OI) : List OI := best.zipIdx.foldl (relaxAll steps) (best.map fun _ => none)
def greater : OI → OI → OI
  | none, y => y
  | some a, none => some a
  | some a, some b => some (mx a b)
def later (steps : List (List Step)) (best : List OI) : List OI := List.zipWith greater best (oneOn steps best)
def started (n : Nat) : List OI := (List.range n).map fun p => if p = 0 then some 0 else none
def hi (steps : List (List Step)) : Nat → List OI → Option (List OI)
  | 0, _ => none
  | k + 1, best => if later steps best = best then some best else hi steps k (later steps best)
def highest (steps : List (List Step)) : Option (List OI) := hi steps (steps.length + 1) (started steps.length)

theorem relax_len (k : Int) (f : List OI) (s : Step) : (relax k f s).length = f.length := by
  unfold relax
  split
  · split <;> simp
  · simp
theorem relaxs_len (k : Int) : ∀ (l : List Step) (f : List OI), (l.foldl (relax k) f).length = f.length
  | [], _ => rfl
  | s :: l, f => by rw [List.foldl_cons, relaxs_len k l, relax_len]
theorem relaxAll_len (steps : List (List Step)) (f : List OI) (p : OI × Nat) : (relaxAll steps f p).length = f.length := by
  unfold relaxAll
  split
  · rfl
  · exact relaxs_len _ _ _
theorem relaxAlls_len (steps : List (List Step)) : ∀ (l : List (OI × Nat)) (f : List OI), (l.foldl (relaxAll steps) f).length = f.length
  | [], _ => rfl
  | s :: l, f => by rw [List.foldl_cons, relaxAlls_len steps l, relaxAll_len]
theorem oneOn_len (steps : List (List Step)) (best : List OI) : (oneOn steps best).length = best.length := by
  unfold oneOn
  rw [relaxAlls_len, List.length_map]
theorem later_len (steps : List (List Step)) (best : List OI) : (later steps best).length = best.length := by
  unfold later
  rw [List.length_zipWith, oneOn_len, Nat.min_self]
theorem started_len (n : Nat) : (started n).length = n := by simp [started]

/-! sizes -/
def Le (B : Int) (l : List OI) : Prop := ∀ v, some v ∈ l → -B ≤ v ∧ v ≤ B
theorem mem_set_oi {l : List OI} {i : Nat} {x y : OI} (h : y ∈ l.set i x) : y ∈ l ∨ y = x := List.mem_or_eq_of_mem_set h
theorem Le.relax {B C : Int} {k : Int} (hk : -B ≤ k ∧ k ≤ B) {G : Int} {s : Step} (hs : -G ≤ s.2.1 ∧ s.2.1 ≤ G) {f : List OI} (h : Le C f) (hc : B + G ≤ C) : Le C (relax k f s) := by
  intro v hv
  unfold K56.relax at hv
  have go : ∀ {f : List OI}, Le C f → some v ∈ f.set s.1 (some (k + s.2.1)) → -C ≤ v ∧ v ≤ C := fun hf hv => by
    rcases mem_set_oi hv with z | z
    · exact hf v z
    · have := Option.some.inj z; omega
  split at hv
  · split at hv
    · exact go h hv
    · exact h v hv
  · exact go h hv
theorem Le.relaxs {B C : Int} {k : Int} (hk : -B ≤ k ∧ k ≤ B) {G : Int} (hc : B + G ≤ C) : ∀ (l : List Step), (∀ s ∈ l, -G ≤ s.2.1 ∧ s.2.1 ≤ G) → ∀ {f : List OI}, Le C f → Le C (l.foldl (K56.relax k) f)
  | [], _, _, h => h
  | s :: l, hl, f, h => Le.relaxs hk hc l (fun t ht => hl t (List.mem_cons_of_mem _ ht)) (h.relax hk (hl s (List.mem_cons_self ..)) hc)
def Gains (G : Int) (steps : List (List Step)) : Prop := ∀ l ∈ steps, ∀ s ∈ l, -G ≤ s.2.1 ∧ s.2.1 ≤ G
theorem Gains.getD {G : Int} {steps : List (List Step)} (h : Gains G steps) (i : Nat) : ∀ s ∈ steps.getD i [], -G ≤ s.2.1 ∧ s.2.1 ≤ G := by
  intro s hs
  rw [List.getD_eq_getElem?_getD] at hs
  cases e : steps[i]? with
  | none => rw [e] at hs; simp at hs
  | some l => rw [e] at hs; exact h l (List.mem_of_getElem? e) s hs
theorem Le.relaxAlls {B C G : Int} {steps : List (List Step)} (hg : Gains G steps) (hc : B + G ≤ C) : ∀ (l : List (OI × Nat)), (∀ p ∈ l, ∀ v, p.1 = some v → -B ≤ v ∧ v ≤ B) → ∀ {f : List OI}, Le C f → Le C (l.foldl (relaxAll steps) f)
  | [], _, _, h => h
  | p :: l, hl, f, h => by
    refine Le.relaxAlls hg hc l (fun q hq => hl q (List.mem_cons_of_mem _ hq)) ?_
    unfold relaxAll
    cases e : p.1 with
    | none => exact h
    | some k => exact Le.relaxs (hl p (List.mem_cons_self ..) k e) hc _ (hg.getD _) h
theorem mem_zipIdx_fst {l : List OI} {p : OI × Nat} (h : p ∈ l.zipIdx) : p.1 ∈ l := by
  obtain ⟨a, b⟩ := p
  have := List.mem_zipIdx h
  rw [this.2.2]
  exact List.getElem_mem ..
theorem Le.oneOn {B G : Int} {steps : List (List Step)} (hg : Gains G steps) {best : List OI} (h : Le B best) : Le (B + G) (K56.oneOn steps best) := by
  refine Le.relaxAlls hg (Int.le_refl _) _ (fun p hp v e => h v (e ▸ mem_zipIdx_fst hp)) ?_
  intro v hv
  simp at hv
theorem mem_zipWith {l r : List OI} {v : OI} (h : v ∈ List.zipWith greater l r) : ∃ a ∈ l, ∃ b ∈ r, v = greater a b := by
  obtain ⟨i, hi, e⟩ := List.mem_iff_getElem.mp h
  rw [List.getElem_zipWith] at e
  exact ⟨_, List.getElem_mem _, _, List.getElem_mem _, e.symm⟩
theorem Le.later {B G : Int} {steps : List (List Step)} (hg : Gains G steps) {best : List OI} (h : Le B best) (h0 : 0 ≤ G) : Le (B + G) (K56.later steps best) := by
  intro v hv
  obtain ⟨a, ha, b, hb, e⟩ := mem_zipWith hv
  have ho := Le.oneOn hg h
  cases a with
  | none => simp only [greater] at e; exact ho v (e ▸ hb)
  | some x =>
    have hx := h x ha
    cases b with
    | none => simp only [greater] at e; have := Option.some.inj e; omega
    | some y =>
      have hy := ho y hb
      simp only [greater, mx] at e
      have := Option.some.inj e
      split at this <;> omega
theorem Le.started (n : Nat) : Le 0 (K56.started n) := by
  intro v hv
  unfold K56.started at hv
  rw [List.mem_map] at hv
  obtain ⟨p, _, e⟩ := hv
  split at e
  · have := Option.some.inj e; omega
  · cases e
theorem hi_le {G : Int} {steps : List (List Step)} (hg : Gains G steps) (h0 : 0 ≤ G) : ∀ (k : Nat) {B : Int} {best out : List OI}, Le B best → hi steps k best = some out → Le (B + k * G) out ∧ out.length = best.length ∧ K56.later steps out = out
  | 0, _, _, _, _, e => by cases e
  | k + 1, B, best, out, h, e => by
    unfold hi at e
    split at e
    · rename_i hl
      cases e
      refine ⟨fun v hv => ?_, rfl, hl⟩
      have := h v hv
      have : 0 ≤ ((k + 1 : Nat) : Int) * G := Int.mul_nonneg (Int.natCast_nonneg _) h0
      omega
    · obtain ⟨a, b, c⟩ := hi_le hg h0 k (Le.later hg h h0) e
      refine ⟨fun v hv => ?_, by rw [b, later_len], c⟩
      have := a v hv
      have e2 : ((k + 1 : Nat) : Int) * G = (k : Int) * G + G := by rw [Int.natCast_succ, Int.add_mul, Int.one_mul]
      omega

/-! none of them is none -/
theorem set_some {f : List OI} {i j : Nat} {v x : Int} (h : f[i]? = some (some v)) : ∃ w, (f.set j (some x))[i]? = some (some w) := by
  by_cases e : j = i
  · subst e
    rw [List.getElem?_set_self (List.getElem?_eq_some_iff.mp h).1]
    exact ⟨x, rfl⟩
  · rw [List.getElem?_set_ne e]
    exact ⟨v, h⟩
theorem relax_keep {k : Int} {f : List OI} {s : Step} {i : Nat} {v : Int} (h : f[i]? = some (some v)) : ∃ w, (relax k f s)[i]? = some (some w) := by
  unfold relax
  split
  · split
    · exact set_some h
    · exact ⟨v, h⟩
  · exact set_some h
theorem relax_hit {k : Int} {f : List OI} {s : Step} (h : s.1 < f.length) : ∃ w, (relax k f s)[s.1]? = some (some w) := by
  unfold relax
  split
  · rename_i v e
    split
    · exact ⟨_, List.getElem?_set_self h⟩
    · exact ⟨v, e⟩
  · exact ⟨_, List.getElem?_set_self h⟩
theorem relaxs_keep {k : Int} : ∀ {l : List Step} {f : List OI} {i : Nat} {v : Int}, f[i]? = some (some v) → ∃ w, (l.foldl (relax k) f)[i]? = some (some w)
  | [], _, _, v, h => ⟨v, h⟩
  | s :: l, f, i, v, h => by
    obtain ⟨w, hw⟩ := relax_keep (k := k) (s := s) h
    exact relaxs_keep (l := l) hw
theorem relaxs_hit {k : Int} : ∀ {l : List Step} {f : List OI} {s : Step}, s ∈ l → s.1 < f.length → ∃ w, (l.foldl (relax k) f)[s.1]? = some (some w)
  | [], _, _, hs, _ => by cases hs
  | t :: l, f, s, hs, h => by
    rcases List.mem_cons.mp hs with e | e
    · subst e
      obtain ⟨w, hw⟩ := relax_hit (k := k) h
      exact relaxs_keep (l := l) hw
    · exact relaxs_hit (l := l) e (by rw [relax_len]; exact h)
theorem relaxAlls_keep {steps : List (List Step)} : ∀ {l : List (OI × Nat)} {f : List OI} {i : Nat} {v : Int}, f[i]? = some (some v) → ∃ w, (l.foldl (relaxAll steps) f)[i]? = some (some w)
  | [], _, _, v, h => ⟨v, h⟩
  | p :: l, f, i, v, h => by
    have : ∃ w, (relaxAll steps f p)[i]? = some (some w) := by
      unfold relaxAll
      split
      · exact ⟨v, h⟩
      · exact relaxs_keep h
    obtain ⟨w, hw⟩ := this
    exact relaxAlls_keep (l := l) hw
theorem relaxAlls_hit {steps : List (List Step)} : ∀ {l : List (OI × Nat)} {f : List OI} {p : OI × Nat} {k : Int} {s : Step}, p ∈ l → p.1 = some k → s ∈ steps.getD p.2 [] → s.1 < f.length → ∃ w, (l.foldl (relaxAll steps) f)[s.1]? = some (some w)
  | [], _, _, _, _, hp, _, _, _ => by cases hp
  | q :: l, f, p, k, s, hp, hk, hs, h => by
    rcases List.mem_cons.mp hp with e | e
    · subst e
      have : ∃ w, (relaxAll steps f p)[s.1]? = some (some w) := by
        unfold relaxAll
        rw [hk]
        exact relaxs_hit hs h
      obtain ⟨w, hw⟩ := this
      exact relaxAlls_keep (l := l) hw
    · exact relaxAlls_hit (l := l) e hk hs (by rw [relaxAll_len]; exact h)
theorem oneOn_hit {steps : List (List Step)} {best : List OI} {h j : Nat} {k g m : Int} {l : List Step} (hb : best[h]? = some (some k)) (hl : steps[h]? = some l) (hs : (j, g, m) ∈ l) (hj : j < best.length) : ∃ w, (oneOn steps best)[j]? = some (some w) := by
  unfold oneOn
  refine relaxAlls_hit (p := (some k, h)) (k := k) (s := (j, g, m)) ?_ rfl ?_ (by rw [List.length_map]; exact hj)
  · rw [List.mem_iff_getElem?]
    exact ⟨h, by rw [List.getElem?_zipIdx, hb]; simp⟩
  · show (j, g, m) ∈ steps.getD h []
    rw [List.getD_eq_getElem?_getD, hl]
    exact hs
theorem later_at {steps : List (List Step)} {best : List OI} {j : Nat} {a b : OI} (h1 : best[j]? = some a) (h2 : (oneOn steps best)[j]? = some b) : (later steps best)[j]? = some (greater a b) := by
  unfold later
  rw [List.getElem?_zipWith, h1, h2]
theorem greater_some_l (a : Int) (b : OI) : ∃ w, greater (some a) b = some w := by
  cases b with
  | none => exact ⟨a, rfl⟩
  | some b => exact ⟨mx a b, rfl⟩
theorem greater_some_r (a : OI) (b : Int) : ∃ w, greater a (some b) = some w := by
  cases a with
  | none => exact ⟨b, rfl⟩
  | some a => exact ⟨mx a b, rfl⟩
theorem later_keep {steps : List (List Step)} {best : List OI} {j : Nat} {v : Int} (h : best[j]? = some (some v)) : ∃ w, (later steps best)[j]? = some (some w) := by
  have hj := (List.getElem?_eq_some_iff.mp h).1
  have h2 : (oneOn steps best)[j]? = some ((oneOn steps best)[j]'(by rw [oneOn_len]; exact hj)) := List.getElem?_eq_getElem _
  obtain ⟨w, hw⟩ := greater_some_l v ((oneOn steps best)[j]'(by rw [oneOn_len]; exact hj))
  exact ⟨w, by rw [later_at h h2, hw]⟩
theorem hi_keep {steps : List (List Step)} : ∀ (k : Nat) {best out : List OI} {v : Int}, best[0]? = some (some v) → hi steps k best = some out → ∃ w, out[0]? = some (some w)
  | 0, _, _, _, _, e => by cases e
  | k + 1, best, out, v, h, e => by
    unfold hi at e
    split at e
    · cases e; exact ⟨v, h⟩
    · obtain ⟨w, hw⟩ := later_keep (steps := steps) h
      exact hi_keep k hw e
section
variable {N : Type} [DecidableEq N]
theorem WOk.gains {ms : List Int} {S : List N} {G : Int} {w : Wb N} (h : WOk ms S G w) : Gains G w.steps := fun l hl s hs => by
  obtain ⟨i, hi, e⟩ := List.mem_iff_getElem.mp hl
  obtain ⟨_, a, b, _⟩ := h.st i l (by rw [List.getElem?_eq_getElem hi, e]) s hs
  exact ⟨a, b⟩
theorem fix_some {ms : List Int} {S : List N} {G : Int} {w : Wb N} (h : WOk ms S G w) (hl : w.steps.length = w.nodes.length) {best : List OI} (hb : best.length = w.steps.length) (hf : later w.steps best = best) (h0 : ∃ v, best[0]? = some (some v)) :
    ∀ j, j < best.length → ∃ v, best[j]? = some (some v) := by
  intro j
  induction j using Nat.strongRecOn with
  | ind j ih =>
    intro hj
    by_cases z : j = 0
    · subst z; exact h0
    · obtain ⟨a, m, _, e2, e3, _, g, l, e4, e5⟩ := h.org j (by omega) (by omega)
      obtain ⟨k, hk⟩ := ih a e2 (by omega)
      obtain ⟨x, hx⟩ := oneOn_hit hk e4 e5 hj
      have hbj : best[j]? = some best[j] := List.getElem?_eq_getElem hj
      obtain ⟨y, hy⟩ := greater_some_r best[j] x
      refine ⟨y, ?_⟩
      have := later_at hbj hx
      rw [hf, hy] at this
      exact this
end
/-- the intsOf of a list in which none is none -/
def intsOf (l : List OI) : List Int := l.filterMap id
theorem intsOf_map : ∀ {l : List OI}, (∀ j, j < l.length → ∃ v, l[j]? = some (some v)) → l = (intsOf l).map some
  | [], _ => rfl
  | a :: l, h => by
    obtain ⟨v, hv⟩ := h 0 (by simp)
    have : a = some v := by simpa using hv
    subst this
    have ih := intsOf_map (l := l) fun j hj => by
      obtain ⟨v, hv⟩ := h (j + 1) (by simpa using hj)
      exact ⟨v, by simpa using hv⟩
    show some v :: l = some v :: (intsOf l).map some
    rw [← ih]
/-! ### the greatest of a list -/
def maxL : List Int → Int
  | [] => 0
  | a :: l => l.foldl (fun x y => if y > x then y else x) a
theorem maxL_spec : ∀ (l : List Int) (a : Int), (l.foldl (fun x y => if y > x then y else x) a ∈ a :: l) ∧ ∀ y ∈ a :: l, y ≤ l.foldl (fun x y => if y > x then y else x) a
  | [], a => ⟨List.mem_cons_self .., fun y hy => by rw [List.mem_singleton] at hy; rw [hy]; exact Int.le_refl _⟩
  | b :: l, a => by
    rw [List.foldl_cons]
    obtain ⟨h1, h2⟩ := maxL_spec l (if b > a then b else a)
    refine ⟨?_, fun y hy => ?_⟩
    · rcases List.mem_cons.mp h1 with e | e
      · rw [e]; split
        · exact List.mem_cons_of_mem _ (List.mem_cons_self ..)
        · exact List.mem_cons_self ..
      · exact List.mem_cons_of_mem _ (List.mem_cons_of_mem _ e)
    · have h3 := h2 _ (List.mem_cons_self ..)
      rcases List.mem_cons.mp hy with e | hy
      · subst e; split at h3 <;> (revert h3; split <;> intro h3 <;> omega)
      · rcases List.mem_cons.mp hy with e | hy
        · subst e; split at h3 <;> (revert h3; split <;> intro h3 <;> omega)
        · exact h2 y (List.mem_cons_of_mem _ hy)
theorem maxL_uniq {l : List Int} {m : Int} (hm : m ∈ l) (h : ∀ y ∈ l, y ≤ m) : m = maxL l := by
  cases l with
  | nil => cases hm
  | cons a l =>
    obtain ⟨h1, h2⟩ := maxL_spec l a
    exact Int.le_antisymm (h2 m hm) (h _ h1)
theorem maxL_mem {l : List Int} (h : l ≠ []) : maxL l ∈ l := by
  cases l with
  | nil => exact absurd rfl h
  | cons a l => exact (maxL_spec l a).1
/-! ### courses -/
def back (orig : List (Option (Nat × Int))) : Nat → Nat → List Int
  | 0, _ => []
  | k + 1, p => match orig[p]? with
    | some (some (h, m)) => m :: back orig k h
    | _ => []
def course (orig : List (Option (Nat × Int))) (p : Nat) : List Int := (back orig (p + 1) p).reverse
def partF (orig : List (Option (Nat × Int))) (q : List Step × Nat) : Option (List Int) := (q.1.find? fun s => decide (s.2.1 ≠ 0)).map fun s => course orig q.2 ++ [s.2.2]
def partW {N : Type} (w : Wb N) : Option (List Int) := w.steps.zipIdx.findSome? (partF w.orig)
def leadW {N : Type} (w : Wb N) : Option Int := (highest w.steps).map fun b => maxL (intsOf b)
theorem back_len (orig : List (Option (Nat × Int))) : ∀ k p, (back orig k p).length ≤ k
  | 0, _ => Nat.zero_le _
  | k + 1, p => by
    unfold back
    split
    · rw [List.length_cons]; have := back_len orig k; exact Nat.succ_le_succ (this _)
    · exact Nat.zero_le _
theorem back_mem {ms : List Int} {orig : List (Option (Nat × Int))} (h : ∀ (j a : Nat) (m : Int), orig[j]? = some (some (a, m)) → m ∈ ms) : ∀ k p, ∀ x ∈ back orig k p, x ∈ ms
  | 0, _, _, hx => by cases hx
  | k + 1, p, x, hx => by
    unfold back at hx
    split at hx
    · rename_i a m e
      rcases List.mem_cons.mp hx with z | z
      · rw [z]; exact h _ _ _ e
      · exact back_mem h k _ x z
    · cases hx
/-! ### the three questions -/
def raceAft (c d : Pt) (n : Sd × Sd) (m : Int) : (Sd × Sd) × Int := (((behind c n.1 m).1, (behind d n.2 m).1), (behind c n.1 m).2 - (behind d n.2 m).2)
def walkAft (c : Pt) (sign : Int) (n : Sd) (m : Int) : Sd × Int := ((behind c n m).1, (behind c n m).2 * sign)
def raceS (c d : Pt) (ms : List Int) : List (Sd × Sd) := (sds c ms).flatMap fun a => (sds d ms).map fun b => (a, b)
theorem len_flat2 {α β : Type} (f : α → List β) (n : Nat) (hf : ∀ m, (f m).length ≤ n) : ∀ l : List α, (l.flatMap f).length ≤ l.length * n
  | [] => by simp
  | m :: l => by
    have := len_flat2 f n hf l
    have := hf m
    rw [List.flatMap_cons, List.length_append, List.length_cons, Nat.succ_mul]
    omega
theorem race_good {c d : Pt} (hc : Ok c) (hd : Ok d) {ms : List Int} (hb : Band ms) : Good (raceAft c d) ms (raceS c d ms) 84 where
  closed := fun x hx m hm => by
    obtain ⟨a, b⟩ := x
    unfold raceS at hx
    simp only [List.mem_flatMap, List.mem_map, Prod.mk.injEq] at hx
    obtain ⟨a', ha, b', hb', rfl, rfl⟩ := hx
    obtain ⟨p1, p2, p3⟩ := behind_in hc hb ha hm
    obtain ⟨q1, q2, q3⟩ := behind_in hd hb hb' hm
    refine ⟨?_, ?_, ?_⟩
    · unfold raceS raceAft
      simp only [List.mem_flatMap, List.mem_map, Prod.mk.injEq]
      exact ⟨_, p1, _, q1, rfl, rfl⟩
    · unfold raceAft; dsimp only; omega
    · unfold raceAft; dsimp only; omega
  small := by
    have h1 := sds_len c hb.len
    have h2 : (raceS c d ms).length ≤ (sds c ms).length * 16 := len_flat2 _ 16 (fun _ => by rw [List.length_map]; exact sds_len d hb.len) _
    omega
theorem race_begun {c d : Pt} (hc : Ok c) (hd : Ok d) (ms : List Int) : (begun c, begun d) ∈ raceS c d ms := by
  unfold raceS
  simp only [List.mem_flatMap, List.mem_map, Prod.mk.injEq]
  exact ⟨_, begun_in hc ms, _, begun_in hd ms, rfl, rfl⟩
theorem walk_good {c : Pt} (hc : Ok c) {ms : List Int} (hb : Band ms) : Good (walkAft c (-1)) ms (sds c ms) 84 where
  closed := fun x hx m hm => by
    obtain ⟨p1, p2, p3⟩ := behind_in hc hb hx hm
    refine ⟨p1, ?_, ?_⟩ <;> unfold walkAft <;> dsimp only <;> omega
  small := by
    have h1 := sds_len c hb.len
    omega
def raceW (c d : Pt) (ms : List Int) : Wb (Sd × Sd) := web (raceAft c d) ms (begun c, begun d)
def walkW (c : Pt) (ms : List Int) : Wb Sd := web (walkAft c (-1)) ms (begun c)
def lead (c d : Pt) (ms : List Int) : Option Int := leadW (raceW c d ms)
def parting (c d : Pt) (ms : List Int) : Option (List Int) := partW (raceW c d ms)
def lowest (c : Pt) (ms : List Int) : Option Int := (leadW (walkW c ms)).map fun v => -v
end K56
namespace K56
open PySem PySem.Spec PyProof.Rows L2
/-! ### promises by positional values; what a def may let out is L2.CX -/
abbrev Fn (P : Program) (w : World) (K : PySem.W.Frag) (mg : Str → Option Value) (base : Heap) (k : Nat) (f : Addr) (sp : Sp) : Prop := FnR P w K mg base (L2.CX P w) k f sp
theorem fn_mk {P : Program} {w : World} {K : PySem.W.Frag} {mg : Str → Option Value} {base : Heap} {x qual : Str} {pa : Arguments} {bd : List Stmt} {sc : Scope} {dvs : List V} {kws : List (Str × V)} {f : Addr} {fd : FuncData} {N ps : List Str} {k : Nat} {sp : Sp}
    (F : FunD K x qual pa bd sc dvs kws f fd) (hb : Binds K fd ps []) (S : FnScope N ps sc) (len : ∀ vs H Q E, sp vs H Q E → vs.length = ps.length)
    (hbody : ∀ (cdv : Value) (A : Around) (outer : List Env) (s : Shared) (H : Hp) (vs : List V) (Q : VK) (E : XK), Room k (A.deeper (envOfC qual sc s.heap.objs.size f cdv)) → sp vs H Q E →
      ∃ t, PSs (cxOf (L2.CX P w) P w K mg base N qual sc f cdv A outer s H E) bd t ∧ t { nx := fun _ H' => Q .non H', rt := Q } (start N vs) H) : Fn P w K mg base (k + 1) f sp := by
  have G : FnOk P w K mg base (L2.CX P w) (k + 1) f fd ps sp := F.ok S len hbody
  intro A outer s H us vs Q E hr e0 r hs
  have := G.raw hb .nil A outer s H us vs Q E hr e0 r (show sp (vs ++ []) H Q E by rw [List.append_nil]; exact hs)
  exact this
section
variable {X : Cx} {k : Nat} {f C g : Addr} {sp : Sp} {E : XK} {x m : Str} {p pos apos : Pos} {e o : Expr} {es : List Expr} {ta te : TE} {t : TA}
theorem runR {pins : List (Addr × Obj)} {σ : L2.St} {H : Hp} {s : Shared} {Q : VK} {us : List Value} {vs : List V} (F : Fn X.prog X.w X.K X.mg X.base k f sp) (hr : Room k X.A) (hx : PassesAt (L2.CX X.prog X.w) X σ E)
    (I : Inv X pins σ H s) (r : Vals vs us) (h : sp vs H Q E) : wpAny (model X.prog X.w) X.A (call (.ref f) us) (EP X pins σ Q) X.xe s := by
  refine wpAny_call (codeAny_mono (F X.A X.stack s H us vs Q E hr I.env0 r h) fun r s' hq => ?_)
  cases r with
  | error e => exact hx pins H s e s' I hq
  | ok fl =>
    cases fl with
    | ret u => exact I.after hq
    | next => exact False.elim hq
    | brk => exact False.elim hq
    | cont => exact False.elim hq
/-- nothing is let out -/
theorem pas0 {σ : L2.St} : PassesAt (L2.CX X.prog X.w) X σ E0 := fun _ _ _ _ _ _ h => by
  obtain ⟨_, _, _, _, _, _, _, _, _, _, _, _, z⟩ := h
  exact z.elim
/-- what a callee lets out is let out by the caller, as it is -/
theorem pasE {W : WX} (tk : Takes X W) (σ : L2.St) (hW : ∀ cls d H, E cls d H → W cls d σ H) : PassesAt (L2.CX X.prog X.w) X σ E := fun _ _ _ e s' I c => tk e s' (XE.of_call I (fun cls d H' h => hW cls d H' h) c)
abbrev tCl (sp : Sp) (E : L2.St → XK) (t : TA) : TE := fun σ H Q => t σ H fun vs H1 => sp vs H1 Q (E σ)
/-- f(e, ..) -/
theorem pe_cl {E : L2.St → XK} (F : Fn X.prog X.w X.K X.mg X.base k f sp) (hr : Room k X.A) (hm : X.mg x = some (.ref f)) (hk : PySem.W.keepIn X.K (.ref f) = true) (hx : ∀ σ, PassesAt (L2.CX X.prog X.w) X σ (E σ))
    (ha : PA X (e :: es) t) (hg : Gl X x := by rfl) (hdb : (x == ("__debug__" : Str)) = false := by decide) (he : starEach (e :: es) X.env = (false, eval e X.env) :: starEach es X.env := by rfl) (hpl : (backTo pos (starEach es X.env)).any (·.1) = false := by rfl) :
    PE X (.Call (.Name x p) (e :: es) [] pos) (tCl sp E t) := by
  refine ⟨fun pins s σ H Q I h => ?_⟩
  refine wpAny_Call_Name_kw (ld_glob I hg hm ?_ hdb)
  refine PySem.W.callWith_K (h₀ := X.base) I.ok.mod.kin hk (thn (ha.run pos pins s σ H _ I h) fun us s1 ⟨vs, H1, I1, r, q⟩ => ⟨I1.kIn, ?_⟩) he hpl
  exact runR F hr (hx σ) I1 r q
/-- o.m(e, ..), o.m() -/
def tMt (C : Addr) (m : Str) (sp : Sp) (E : L2.St → XK) (ta : TE) (t : TA) : TE := fun σ H Q => ta σ H fun x H1 => ∃ a dx fs, x = .ref a ∧ H1 a = some (.ins C dx fs) ∧ fs.lookup m = none ∧ t σ H1 fun vs H2 => sp (x :: vs) H2 Q (E σ)
theorem pe_ml {E : L2.St → XK} {pl : Sem Bool} (he : PE X o ta) (c : Cls X.K C) (hm : Meth X.K C m f) (F : Fn X.prog X.w X.K X.mg X.base k f sp) (hr : Room k X.A) (hx : ∀ σ, PassesAt (L2.CX X.prog X.w) X σ (E σ)) (ha : PA X (e :: es) t)
    (hst : starEach (e :: es) X.env = (false, eval e X.env) :: starEach es X.env := by rfl) (hpl : (backTo pos (starEach es X.env)).any (·.1) = false := by rfl)
    (ht : eval (.Call (.Attribute o m apos) (e :: es) [] pos) X.env = (do
      let ov ← eval o X.env
      standAt apos.atName
      let (f, first) ← holding [ov] (getMethod ov m pl)
      callWith pos f first (backTo pos (starEach (e :: es) X.env)) (backToKw pos (keywordEach [] X.env))) := by rfl) :
    PE X (.Call (.Attribute o m apos) (e :: es) [] pos) (tMt C m sp E ta t) := by
  refine ⟨fun pins s σ H Q I h => ?_⟩
  refine PySem.W.methodCall_KW (pl := pl) (thn (he.run pins s σ H _ I h) fun u s1 ⟨x, H1, I1, rx, a, dx, fs, ex, ea, l, q⟩ => ?_) ht
  subst ex
  obtain rfl : u = Value.ref a := rx
  refine getmeth_ok I1 ea c hm l ?_
  refine PySem.W.callWith_K (first := [.ref a]) (h₀ := X.base) I.ok.mod.kin hm.kp (thn (ha.run pos pins s1 σ H1 _ I1 q) fun us s2 ⟨vs, H2, I2, r, q2⟩ => ⟨I2.kIn, ?_⟩) hst hpl
  exact runR (us := .ref a :: us) (vs := .ref a :: vs) F hr (hx σ) I2 (.cons rfl r) q2
theorem pe_ml0 {E : L2.St → XK} {pl : Sem Bool} (he : PE X o ta) (c : Cls X.K C) (hm : Meth X.K C m f) (F : Fn X.prog X.w X.K X.mg X.base k f sp) (hr : Room k X.A) (hx : ∀ σ, PassesAt (L2.CX X.prog X.w) X σ (E σ))
    (ht : eval (.Call (.Attribute o m apos) [] [] pos) X.env = (do
      let ov ← eval o X.env
      standAt apos.atName
      let (f, first) ← holding [ov] (getMethod ov m pl)
      callWith pos f first (backTo pos (starEach [] X.env)) (backToKw pos (keywordEach [] X.env))) := by rfl) :
    PE X (.Call (.Attribute o m apos) [] [] pos) (tMt C m sp E ta tNil) := by
  refine ⟨fun pins s σ H Q I h => ?_⟩
  refine PySem.W.methodCall_KW (pl := pl) (thn (he.run pins s σ H _ I h) fun u s1 ⟨x, H1, I1, rx, a, dx, fs, ex, ea, l, q⟩ => ?_) ht
  subst ex
  obtain rfl : u = Value.ref a := rx
  refine getmeth_ok I1 ea c hm l ?_
  exact PySem.W.callWith_K0 (first := [.ref a]) I1.kIn hm.kp (runR (us := [.ref a]) (vs := [.ref a]) F hr (hx σ) I1 (.cons rfl .nil) q)
/-- C(e, ..) -/
def tMk (C : Addr) (sp : Sp) (t : TA) : TE := fun σ H Q => t σ H fun vs H1 => ∀ x dx, H1 x = Option.none → H1 dx = Option.none → dx ≠ x → sp (.ref x :: vs) (upd (upd H1 dx (.own x)) x (.ins C dx [])) (fun v H2 => v = .non ∧ Q (.ref x) H2) E0
theorem pe_mk (M : Mk X.K C f) (F : Fn X.prog X.w X.K X.mg X.base k f sp) (hr : Room (k + 1) X.A) (hm : X.mg x = some (.ref C)) (ha : PA X (e :: es) t) (hg : Gl X x := by rfl) (hdb : (x == ("__debug__" : Str)) = false := by decide)
    (he : starEach (e :: es) X.env = (false, eval e X.env) :: starEach es X.env := by rfl) (hpl : (backTo pos (starEach es X.env)).any (·.1) = false := by rfl) :
    PE X (.Call (.Name x p) (e :: es) [] pos) (tMk C sp t) :=
  StX.pe_makeR M F hr hg hm passL ha hdb he hpl
/-- e.f, a property of the class at C, its getter at g -/
theorem pe_pr {q : Addr} (he : PE X e ta) (c : Cls X.K C) (hp : PropOf X.K C m q g) (F : Fn X.prog X.w X.K X.mg X.base k g sp) (hr : Room (k + 1) X.A)
    (hab : attributeBase e m X.env (eval e X.env) = eval e X.env := by rfl) : PE X (.Attribute e m pos) (tProp C sp [] E0 ta) := by
  refine ⟨fun pins s σ H Q I h => ?_⟩
  refine attr_of hab (thn (he.run pins s σ H _ I h) fun u s1 ⟨x, H1, I1, rx, a, dx, fs, ex, ea, q⟩ => ?_)
  subst ex
  obtain rfl : u = Value.ref a := rx
  obtain ⟨mA, O, _, _, _, _⟩ := ins_get I1.hok ea
  obtain ⟨od, J, _⟩ := O.look
  obtain ⟨rest, hrec⟩ := hp.rec_
  have I2 := I1.tok (s1.toks + 1)
  have hc : (PySem.W.clsIn X.K C).isSome = true := by
    obtain ⟨cd, hc, _⟩ := PySem.W.any_some c.hd
    rw [hc]
    rfl
  refine PySem.W.get_bind I1.kIn J (PySem.W.plainGet_of (c.get m)).1 (PySem.W.findObj_data hc hp.at_ hp.get hp.tak) (PySem.W.plainGet_of (c.get m)).2 (wpAny_call (PySem.W.prop_get (s := { s1 with toks := s1.toks + 1 }) I1.kIn hrec ?_))
  refine codeAny_mono (F X.A.in1 X.stack _ H1 [.ref a] [.ref a] Q E0 hr.in1 I2.env0.in1 (.cons rfl .nil) q) fun r s' hq => ?_
  cases r with
  | error er =>
    obtain ⟨_, _, _, _, _, _, _, _, _, _, _, _, z⟩ := (show L2.CX X.prog X.w X.stack H1 _ E0 er s' from hq)
    exact z.elim
  | ok fl =>
    cases fl with
    | ret u =>
      obtain ⟨v, H', I3, rv, q3⟩ := I2.after hq
      show wpAny _ _ (handedOut u) _ _ _
      rw [PySem.W.handedOut_of (handed_of rv)]
      exact wpAny_pure ⟨v, H', I3, rv, q3⟩
    | next => exact False.elim hq
    | brk => exact False.elim hq
    | cont => exact False.elim hq
end
/-! ### own classes' special methods: o[i], o[i] = v, in, not in, len, bool, str -/
section
variable {X : Cx} {k : Nat} {C g : Addr} {sp : Sp} {E : L2.St → XK}
theorem inst_of {pins : List (Addr × Obj)} {σ : L2.St} {H : Hp} {s : Shared} {a dx : Addr} {fs : List (Str × V)} (I : Inv X pins σ H s) (e : H a = some (.ins C dx fs)) : ∃ od, PySem.W.InstAt s.heap a (PySem.W.instObj C dx) C od := by
  obtain ⟨mA, O, _, _, _, _⟩ := ins_get I.hok e
  obtain ⟨od, J, _⟩ := O.look
  exact ⟨_, J⟩
/-- what the written part says of a special method -/
structure Spm (K : PySem.W.Frag) (C : Addr) (m : Str) (g : Addr) : Prop where
  at_ : PySem.W.findIn K (.ref C) m = some (some (.ref g))
  fn : PySem.W.isFn K (.ref g) = true
def rGetO (C : Addr) (sp : Sp) : R2 := fun x y H Q => ∃ a dx fs, x = .ref a ∧ H a = some (.ins C dx fs) ∧ sp [x, y] H Q E0
theorem ix_ownC (M : Spm X.K C "__getitem__" g) (hq : PySem.W.noSeq X.K C = true) (F : Fn X.prog X.w X.K X.mg X.base k g sp) (hr : Room k X.A) : OpR X getItem (rGetO C sp) := by
  intro pins s σ H x y v u Q I rx ry h
  obtain ⟨a, dx, fs, rfl, ea, q⟩ := h
  cases rx
  obtain ⟨od, J⟩ := inst_of I ea
  obtain ⟨m, fr⟩ := I.fr
  exact PySem.W.getItem_K fr I.ok.mod.kin J hq M.at_ M.fn (runR (us := [.ref a, u]) (vs := [.ref a, y]) F hr pas0 I (.cons rfl (.cons ry .nil)) q)
def rInO (C : Addr) (sp : Sp) (f : Bool → Bool) : R2 := fun x y H Q => ∃ a dx fs, y = .ref a ∧ H a = some (.ins C dx fs) ∧ sp [y, x] H (fun z H' => ∃ b, z = .bl b ∧ Q (.bl (f b)) H') E0
theorem op_inC (M : Spm X.K C "__contains__" g) (F : Fn X.prog X.w X.K X.mg X.base k g sp) (hr : Room k X.A) : OpR X (compareOp .In) (rInO C sp fun b => b) := by
  intro pins s σ H x y v u Q I rx ry h
  obtain ⟨a, dx, fs, rfl, ea, q⟩ := h
  cases ry
  obtain ⟨od, J⟩ := inst_of I ea
  obtain ⟨m, fr⟩ := I.fr
  refine PySem.W.in_K fr I.ok.mod.kin J M.at_ M.fn (thn (runR (us := [.ref a, v]) (vs := [.ref a, x]) F hr pas0 I (.cons rfl (.cons rx .nil)) q) fun r s1 ⟨z, H1, I1, rz, b, ez, q1⟩ => ?_)
  subst ez
  cases rz
  exact wpAny_truthy_bool ⟨.bl b, H1, I1, rfl, q1⟩
theorem op_notInC (M : Spm X.K C "__contains__" g) (F : Fn X.prog X.w X.K X.mg X.base k g sp) (hr : Room k X.A) : OpR X (compareOp .NotIn) (rInO C sp fun b => !b) := by
  intro pins s σ H x y v u Q I rx ry h
  obtain ⟨a, dx, fs, rfl, ea, q⟩ := h
  cases ry
  obtain ⟨od, J⟩ := inst_of I ea
  obtain ⟨m, fr⟩ := I.fr
  refine PySem.W.notIn_K fr I.ok.mod.kin J M.at_ M.fn (thn (runR (us := [.ref a, v]) (vs := [.ref a, x]) F hr pas0 I (.cons rfl (.cons rx .nil)) q) fun r s1 ⟨z, H1, I1, rz, b, ez, q1⟩ => ?_)
  subst ez
  cases rz
  exact wpAny_truthy_bool ⟨.bl (!b), H1, I1, rfl, q1⟩
def rLenO (C : Addr) (sp : Sp) : List V → Hp → VK → Prop := fun xs H Q => ∃ a dx fs, xs = [.ref a] ∧ H a = some (.ins C dx fs) ∧ sp xs H (fun z H' => ∃ n : Int, z = .int n ∧ (0 ≤ n ∧ n < 2 ^ 63) ∧ Q (.int n) H') E0
theorem call_lenC (M : Spm X.K C "__len__" g) (F : Fn X.prog X.w X.K X.mg X.base k g sp) (hr : Room (k + 1) X.A) : CallR X (.builtin "len") (rLenO C sp) := by
  intro pins s σ H xs us Q I r h
  obtain ⟨a, dx, fs, rfl, ea, q⟩ := h
  obtain ⟨u, rfl, ru⟩ := vals1 r
  cases ru
  obtain ⟨od, J⟩ := inst_of I ea
  obtain ⟨m, fr⟩ := I.fr
  refine PySem.W.len_K fr I.ok.mod.kin J M.at_ M.fn (wpAny_mono (wpAny_call (SlX.run_at (us := [.ref a]) (ws := [.ref a]) F hr.in1 I.env0.in1 (E := E0) passL I (.cons rfl .nil) q)) (fun r s1 z => ?_) fun _ _ x => x)
  obtain ⟨z, H1, I1, rz, n, ez, hn, q1⟩ := z
  subst ez
  obtain ⟨t, rfl⟩ := rz
  exact ⟨hn, .int n, H1, I1.tok _, ⟨_, rfl⟩, q1⟩
def rStrO (C : Addr) (sp : Sp) : List V → Hp → VK → Prop := fun xs H Q => ∃ a dx fs, xs = [.ref a] ∧ H a = some (.ins C dx fs) ∧ sp xs H (fun z H' => ∃ y : Str, z = .str y ∧ Q (.str y) H') E0
theorem call_strC (M : Spm X.K C "__str__" g) (F : Fn X.prog X.w X.K X.mg X.base k g sp) (hr : Room (k + 2) X.A) : CallR X (.type "str") (rStrO C sp) := by
  intro pins s σ H xs us Q I r h
  obtain ⟨a, dx, fs, rfl, ea, q⟩ := h
  obtain ⟨u, rfl, ru⟩ := vals1 r
  cases ru
  obtain ⟨od, J⟩ := inst_of I ea
  have hr1 : Room (k + 1) X.A.in1 := Room.in1 hr
  refine PySem.W.kso_call (hr1.in1).units0 I.kIn J M.at_ M.fn (wpAny_mono (wpAny_call (SlX.run_at (us := [.ref a]) (ws := [.ref a]) F hr1.in1 I.env0.in1.in1 (E := E0) passL I (.cons rfl .nil) q)) (fun r s1 z => ?_) fun _ _ x => x)
  obtain ⟨z, H1, I1, rz, y, ez, q1⟩ := z
  subst ez
  obtain ⟨t, rfl⟩ := rz
  exact ⟨.str y, H1, I1, ⟨_, rfl⟩, q1⟩
end
end K56
namespace K56
open PySem PySem.Spec PyProof.Rows L2
section
open PySem.W
theorem bool_own {prog : Program} {w : World} {A : Around} {E : Value → Shared → Prop} {s : Shared} {K : Frag} {x C L f : Addr} {h₀ : Heap} {m : PySem.Str → Option Value} {ox : Obj} {od : Option Obj} {Q : Value → Shared → Prop} (F : Fr h₀ L s.heap m) (X₀ : K.In h₀) (I : InstAt s.heap x ox C od) (hs : findIn K (.ref C) "__bool__" = some (some (.ref f))) (hf : isFn K (.ref f) = true)
    (h : wpAny (model prog w) A.in1.in1 (call (.ref f) [.ref x]) (PySem.W.BoolBack fun b s' => Q (.bool b) s') E s) : wpAny (model prog w) A (call (.type "bool") [.ref x]) Q E s := by
  refine callType_codes (T := "bool") (Bi := Builtin.«object.__init__») (Q₁ := fun r s₁ => ∃ b, r = .bool b ∧ Q r s₁) PySem.F.called_bool (PySem.F.typeCall_bool_1 _) PySem.F.entry_object_init ?_ ?_
  · refine codeAny_of_tree ?_
    show wpAny _ A.in1.in1 (do checkBuiltinCall "bool.__new__" ⟨[.type "bool", .ref x], []⟩; again (.builtin "bool.__new__" ⟨[.type "bool", .ref x], []⟩)) _ _ s
    refine wpAny_bind (wpAny_of_eq (PySem.F.newCall_bool_1 _) (wpAny_pure ⟨plainId_quiet (by decide +kernel) _, codeAny_builtin PySem.F.entry_bool_new ?_⟩))
    rw [Around.under_plainId (by decide +kernel) _]
    unfold Builtin.«bool.__new__»
    have f1 := PySem.F.conv_sub_bool
    have hT : wpAny (model prog w) A.in1.in1 (truthy (.ref x)) (fun b s' => Q (.bool b) s') E s := truthy_K F X₀ I hs hf h
    repeat (any_goals (first | assumption | (with_reducible refine wpAny_bind (wpAny_mono hT (fun b s' hq => ?_) fun _ _ y => y)) | wp_step))
    all_goals exact ⟨_, rfl, hq⟩
  · rintro obj s₁ ⟨b, rfl, hq⟩
    exact ⟨rfl, PySem.F.args_object_init_2 _ _, object_init_meets PySem.F.called_bool.init.lookup PySem.F.called_bool.made (by decide) prog w A.in1 _ s₁ ⟨rfl, rfl, hq⟩⟩
end
section
variable {X : Cx} {k : Nat} {C g : Addr} {sp : Sp} {E : XK}
def rBoolO (C : Addr) (sp : Sp) : List V → Hp → VK → Prop := fun xs H Q => ∃ a dx fs, xs = [.ref a] ∧ H a = some (.ins C dx fs) ∧ sp xs H (fun z H' => ∃ b, z = .bl b ∧ Q (.bl b) H') E0
theorem call_boolC (M : Spm X.K C "__bool__" g) (F : Fn X.prog X.w X.K X.mg X.base k g sp) (hr : Room (k + 2) X.A) : CallR X (.type "bool") (rBoolO C sp) := by
  intro pins s σ H xs us Q I r h
  obtain ⟨a, dx, fs, rfl, ea, q⟩ := h
  obtain ⟨u, rfl, ru⟩ := vals1 r
  cases ru
  obtain ⟨od, J⟩ := inst_of I ea
  obtain ⟨m, fr⟩ := I.fr
  have hr1 : Room (k + 1) X.A.in1 := Room.in1 hr
  refine bool_own fr I.ok.mod.kin J M.at_ M.fn (wpAny_mono (wpAny_call (SlX.run_at (us := [.ref a]) (ws := [.ref a]) F hr1.in1 I.env0.in1.in1 (E := E0) passL I (.cons rfl .nil) q)) (fun r s1 z => ?_) fun _ _ x => x)
  obtain ⟨z, H1, I1, rz, b, ez, q1⟩ := z
  subst ez
  cases rz
  exact ⟨.bl b, H1, I1, rfl, q1⟩
/-- o[i] = v, o of an own class; what is raised -/
def rSetO (C : Addr) (sp : Sp) (E : XK) : TSet := fun o i v H Q => ∃ a dx fs, o = .ref a ∧ H a = some (.ins C dx fs) ∧ sp [o, i, v] H (fun _ H' => Q H') E
theorem set_own (M : Spm X.K C "__setitem__" g) (hq : PySem.W.noSeq X.K C = true) (F : Fn X.prog X.w X.K X.mg X.base k g sp) (hr : Room k X.A) (hx : ∀ σ, PassesAt (L2.CX X.prog X.w) X σ E) : PSet X (rSetO C sp E) := by
  intro pins s σ H o i v ov iv u Q I ro ri rv h
  obtain ⟨a, dx, fs, rfl, ea, q⟩ := h
  cases ro
  obtain ⟨od, J⟩ := inst_of I ea
  obtain ⟨m, fr⟩ := I.fr
  refine PySem.W.ksp_setItem fr I.ok.mod.kin J hq M.at_ M.fn (thn (runR (us := [.ref a, iv, u]) (vs := [.ref a, i, v]) F hr (hx σ) I (.cons rfl (.cons ri (.cons rv .nil))) q) fun r s1 ⟨z, H1, I1, rz, q1⟩ => ⟨H1, I1, q1⟩)
end
/-! ### repr of data; it asks that no repr is running -/
section
variable {X : Cx}
theorem call_reprD (hg : X.A.guards = some []) (hu : X.A.units + 64 < cLine) : CallR X (.builtin "repr") (fun xs H Q => ∃ (a : Addr) (d : PyData), xs = [.ref a] ∧ Dp X.K H (.ref a) d ∧ d.showable = true ∧ d.hasDict = false ∧ d.depth ≤ 60 ∧ d.shown.length ≤ sizeLine ∧ Q (.str d.shown) H) := by
  intro pins s σ H xs us Q I r h
  obtain ⟨a, d, rfl, hd, h1, h2, h3, h4, q⟩ := h
  obtain ⟨u, rfl, ru⟩ := vals1 r
  obtain ⟨as, R⟩ := Dp.reads I d _ _ hd ru
  cases ru
  exact repr_of_reads' R h1 (PyData.noDict_hsm h2) hg (by omega) (fun _ _ e => e) (fun h' u tk hk => ⟨.str d.shown, H, I.kept (t' := tk) hk, ⟨_, rfl⟩, q⟩) h4
theorem guards_deeper (A : Around) (env : Env) : (A.deeper env).guards = A.guards := rfl
end
end K56
namespace K56
open PySem PySem.Spec PyProof.Rows L2
/-! ### own exceptions whose __init__ says super().__init__() and stores one field or two -/
section
open PySem.W PySem.Calls Builtin Builtin.ObjectAttr
/-- super().__init__() -/
abbrev supS (p0 p1 p2 p3 p4 : Pos) : Stmt := .Expr (.Call (.Attribute (.Call (.Name "super" p0) [] [] p1) "__init__" p2) [] [] p3) p4
abbrev putS (f : Str) (q1 q2 q3 q4 : Pos) : Stmt := .Assign [.Attribute (.Name "self" q1) f q2] (.Name f q3) q4
abbrev xArgs (fs : List (Str × Pos)) (p : Pos) : Arguments := { posonlyargs := [], args := { arg := "self", annotation := none, pos := p } :: fs.map fun q => { arg := q.1, annotation := none, pos := q.2 }, vararg := none, kwonlyargs := [], kw_defaults := [], kwarg := none, defaults := [] }
/-- what the written part says of an own exception class at C, its __init__ at fI, the class's cell at cc, the code object at cda -/
structure XTxt (P : Program) (K : Frag) (mg : Str → Option Value) (x : Str) (C fI cc cda : Addr) (B newId initId : String) (bmB : List Value) (fs : List Str) (qual : Str) (pa : Arguments) (bd : List Stmt) (sc : Scope) : Prop where
  gC : mg x = some (.ref C)
  noSup : mg "super" = none
  FB : ExcBaseFacts B newId initId bmB
  SF : StoreFacts B bmB "object.__setattr__" "object"
  KF : KxsFacts B initId
  q : excInitIn K C bmB newId = true
  ov : excOver K C bmB = true
  hd : (clsIn K C).any (·.hasDict) = true
  sa : findIn K (.ref C) "__setattr__" = some (some (.builtin "object.__setattr__"))
  ga : findIn K (.ref C) "__getattribute__" = some (some (.builtin "BaseException.__getattribute__"))
  gg : findIn K (.ref C) "__getattr__" = some none
  noN : ∀ f ∈ fs, findIn K (.ref C) f = some none
  iC : findIn K (.ref C) "__init__" = some (some (.ref fI))
  tC : isFn K (.ref fI) = true
  kC : keepIn K (.ref C) = true
  exC : subIn K (.ref C) (.type "BaseException") = some true
  tyC : typeIn K (.ref C) = some (.type "type")
  hdC : hasDictIn K C = true
  sup : ks_superIn K C C "__init__" = some (some (.builtin initId))
  sub : subIn K (.ref C) (.type B) = some true
  own : mroIn K C (.ref C) = some true
  opq : nsIn K cStatics "thirdparty.any" = some none
  cell : ∃ cl cld csl, K.lookup cc = some ⟨cl, cld, .cell (some (.ref C)), csl⟩
  code : ∃ ccl cdd vs ccs tf, K.lookup cda = some ⟨ccl, cdd, .fields vs, ccs⟩ ∧ vs[2]? = some (.str P.main.file tf)
  top : (P.main.scope.names.lookup ("super" : Str)).isSome = false
  fn : ∃ (oc : Value) (od : Option Addr) (kV doc pm : Value) (an : Option Addr) (ct : Value) (osl : Array (Option Value)),
    K.lookup fI = some ⟨oc, od, .func (ksFn "__init__" qual pa bd sc .none kV doc pm an (.ref cda) ct cc), osl⟩ ∧ codeIn K (.ref cda) qual = true
/-- the scope of such an __init__ -/
structure XScope (sc : Scope) (fs : List Str) : Prop where
  is : ∃ nm, sc = { kind := .function, names := nm, isGenerator := false, isCoroutine := false, more := [] }
  hks : sc.names.lookup ("super" : Str) = some .globalImplicit
  hkc : sc.names.lookup ("__class__" : Str) = some .free
  self : sc.names.lookup ("self" : Str) = some .local
  hf : ∀ f ∈ fs, sc.names.lookup f = some .local
  cell : ∀ x ∈ sc.names, x.2 ≠ .cell
  co : sc.isCoroutine = false
  gen : sc.isGenerator = false
  kind : sc.kind = .function
theorem boot_super : bootBuiltins ("super" : Str) = some (.type "super") := by kernel_rfl
section
variable {P : Program} {w : World} {A : Around} {E : Value → Shared → Prop} {R : Result → Shared → Prop} {s : Shared} {K : Frag} {mg mb : Str → Option Value} {x : Str} {C fI cc cda : Addr} {B newId initId : String} {bmB : List Value} {fs : List Str} {qual : Str} {pa : Arguments} {bd body : List Stmt} {sc : Scope}
theorem x_call {u e t0 : Addr} {rest : List Value} {Q : Value → Shared → Prop} (T : XTxt P K mg x C fI cc cda B newId initId bmB fs qual pa bd sc) (X : K.In s.heap) (he : s.heap.get? e = some (HandSPX.excO C t0)) (hu : s.heap.get? u = some (kxs_mw initId e)) (hrest : rest.length ≤ sizeLine)
    (hq : ∀ h' t1, (∀ b o, b ≠ e → s.heap.get? b = some o → h'.get? b = some o) → h'.get? e = some (HandSPX.excO C t1) → Q .none { s with heap := h' }) :
    wpAny (model P w) A (call (.ref u) rest) Q E s := by
  obtain ⟨nm, N', qn, bs, bm, hdct, sn, sub, ab, col, dd, k0, k1, k2, k3, k5, hC, hT⟩ := excInit_of X T.q
  obtain ⟨hh, g, d, tk, os⟩ := s
  refine wpAny_call (codeAny_of_tree ?_)
  show wpAny _ A.in1 (callAny (.ref u) ⟨rest, []⟩) _ _ _
  simp only [callAny]
  refine wpAny_bind (wpAny_load hu ?_)
  simp only [kxs_mw, show (Value.type "method-wrapper" == Value.type "method" || Value.type "method-wrapper" == Value.type "builtin_function_or_method" || Value.type "method-wrapper" == Value.type "method-wrapper") = true by decide, if_true]
  refine KFB.if_so (by decide) ?_
  refine wpAny_bind (check_bound_init T.FB.toExcCallFacts hC he rfl ?_)
  refine wpAny_bind (wpAny_pure (wpAny_pure ?_))
  refine ⟨plainId_quiet T.FB.init.plain _, codeAny_builtin T.FB.initEntry ?_⟩
  exact exc_init_tree (cls := .ref C) (t0 := t0) (dv := none) (c2 := .none) (c3 := .none) (b4 := .bool false) he hrest fun h' k e' t' => hq h' _ k e'
theorem x_form {env : Env} {p0 p1 p2 p3 : Pos} (hl : (p2.endLine == p3.line) = true) : eval (.Call (.Attribute (.Call (.Name "super" p0) [] [] p1) "__init__" p2) [] [] p3) env = (do
      let ov ← attributeBase (.Call (.Name "super" p0) [] [] p1) "__init__" env (eval (.Call (.Name "super" p0) [] [] p1) env)
      standAt p2.atName
      let (f, first) ← holding [ov] (getMethod ov "__init__" (do return (← importBound (.Call (.Name "super" p0) [] [] p1) env).getD true))
      callWith p3 f first (backTo p3 (starEach [] env)) []) := by
  have e : ∀ few, methodCallPos few (.Call (.Name "super" p0) [] [] p1) env p2 p3 = pure p3 := fun few => by
    unfold methodCallPos
    rw [hl, Bool.or_true, if_pos rfl]
  show (do
      let ov ← attributeBase (.Call (.Name "super" p0) [] [] p1) "__init__" env (eval (.Call (.Name "super" p0) [] [] p1) env)
      standAt p2.atName
      let (f, first) ← holding [ov] (getMethod ov "__init__" (do return (← importBound (.Call (.Name "super" p0) [] [] p1) env).getD true))
      let cp ← methodCallPos true (.Call (.Name "super" p0) [] [] p1) env p2 p3
      callWith cp f first (backTo p3 (starEach [] env)) []) = _
  rw [e]
  rfl
theorem x_super {L a t0 : Addr} {m : Str → Option Value} {rest : List Stmt} {Q : Flow → Shared → Prop} {p0 p1 p2 p3 p4 : Pos} (T : XTxt P K mg x C fI cc cda B newId initId bmB fs qual pa bd sc) (S : XScope sc fs) (hl : (p2.endLine == p3.line) = true) (hpa : (pa.posonlyargs ++ pa.args).head?.map (·.arg) = some "self") (X : K.In s.heap)
    (hns : s.heap.Ns L m) (hself : m "self" = some (.ref a)) (ho : s.heap.get? a = some (HandSPX.excO C t0)) (hg : s.heap.Ns mainGlobals mg) (hb : s.heap.Ns builtinsNs mb) (hmb : mb "super" = some (.type "super"))
    (h : ∀ h' tk t1, (∀ b o, b ≠ a → s.heap.get? b = some o → h'.get? b = some o) → h'.get? a = some (HandSPX.excO C t1) → wpAny (model P w) A (execs rest (ksEnv qual sc L fI (.ref cda) cc)) Q E { s with heap := h', toks := tk }) :
    _root_.PySem.wpAt (model P w) A (.func body (ksEnv qual sc L fI (.ref cda) cc)) (execs (supS p0 p1 p2 p3 p4 :: rest) (ksEnv qual sc L fI (.ref cda) cc)) Q E s := by
  obtain ⟨oc, od, kV, doc, pm, an, ct, osl, hf, hcode⟩ := T.fn
  obtain ⟨cl, cld, csl, hcell⟩ := T.cell
  obtain ⟨ccl, cdd, vs, ccs, tf, hcda, hvs⟩ := T.code
  have I0 : InstAt s.heap a (HandSPX.excO C t0) C none := ⟨ho, rfl, rfl, trivial⟩
  obtain ⟨ar, har, hname⟩ := Option.map_eq_some_iff.mp hpa
  obtain ⟨oD, cd, hc, hD1, hD2⟩ : ∃ oD cd, clsIn K C = some cd ∧ s.heap.get? C = some oD ∧ oD.data = .cls cd := by
    obtain ⟨cd, hc, _⟩ := any_some T.hd
    have hc0 := hc
    unfold clsIn at hc0
    split at hc0
    · rename_i c d cd' sl hoo
      cases hc0
      exact ⟨_, _, hc, X _ _ hoo, rfl⟩
    · cases hc0
  have hxC := ks_ne X I0 hc
  have lsub := looks_mroIn (M := model P w) X T.own
  have lop := looks_opaque (M := model P w) (C := C) X T.opq
  have lcl := looks_clsIn (M := model P w) X hc
  have lI : Looks (model P w) s.heap (isInstance (.ref a) (.type B)) true := I0.type.andThen (looks_subIn X T.sub)
  have hsi : alongIn K "__init__" ((cd.mro.dropWhile (· != .ref C)).drop 1) = some (some (.builtin initId)) := by
    have z := T.sup
    unfold ks_superIn at z
    rw [hc] at z
    exact z
  obtain ⟨hh, g, d, t, os⟩ := s
  obtain ⟨nm, rfl⟩ := S.is
  refine ks_wpAt_execs_cons (ks_wpAt_Expr_any (ks_wpAt_MethodCall ?_ (x_form hl)))
  refine ks_wpAt_super_base (env := ksEnv qual _ L fI (.ref cda) cc) S.hks S.hkc (by decide) rfl (X _ _ hf) rfl har rfl (X _ _ hcda) rfl hvs (beq_self_eq_true _) T.top ?_
  refine ks_loadName_global S.kind S.hks (loadGlobal_builtin hg T.noSup hb hmb ⟨rfl, ?_⟩)
  refine wpAny_loadName_free S.kind S.hkc (c := cc) (v := .ref C) rfl ⟨_, X _ _ hcell, rfl⟩ ?_
  refine wpAny_loadName_local (v := .ref a) S.kind (by rw [hname]; exact S.self) hns (by rw [hname]; exact hself) ?_
  refine ks_wpAny_isType_cls hD1 hD2 ⟨rfl, ?_⟩
  refine ks_wpAny_call_super hD1 hD2 ho rfl (fun c e => by cases e) lsub (fun h1 e1 k1 => ?_)
  have fr1 : hh.objs.size ≠ a := Nat.ne_of_gt (Heap.lt_size ho)
  refine kxs_getMethod T.KF e1 (lop.keeps k1) (l₀ := cd.mro) (fun A Q E s k q => wpAny_bind ((lcl.keeps k1) A _ E s k (wpAny_pure q))) rfl (X.keeps k1) hsi (lI.keeps k1) hxC (by decide) ?_
  have e2 : (h1.push (kxs_mw initId a)).get? h1.objs.size = some (kxs_mw initId a) := Heap.get?_push_at rfl rfl
  have k2 : ∀ b o, hh.get? b = some o → (h1.push (kxs_mw initId a)).get? b = some o := fun b o e => Heap.get?_push_of_some _ (k1 b o e)
  refine kxs_callWith (i := initId) (x := a) rfl (evalArgs_empty ⟨e2, ?_⟩)
  refine x_call (rest := []) T (X.keeps k2) (k2 _ _ ho) e2 (Nat.zero_le _) fun h' t1 k3 e3 => ?_
  exact wpAt_of_wpAny (h h' _ t1 (fun b o hb e => k3 b o hb (k2 b o e)) e3)
theorem x_put1 {env : Env} {L a t1 : Addr} {m : Str → Option Value} {f : Str} {v : Value} {rest : List Stmt} {Q : Flow → Shared → Prop} {q1 q2 q3 q4 : Pos} (T : XTxt P K mg x C fI cc cda B newId initId bmB fs qual pa bd sc) (S : XScope sc fs) (he : env = ksEnv qual sc L fI (.ref cda) cc) (hmem : f ∈ fs) (X : K.In s.heap)
    (hns : s.heap.Ns L m) (hself : m "self" = some (.ref a)) (hv : m f = some v) (ho : s.heap.get? a = some (HandSPX.excO C t1)) (hd : (f == ("__debug__" : Str)) = false)
    (h : ∀ h' tk dx, (∀ b o, b ≠ a → s.heap.get? b = some o → h'.get? b = some o) → s.heap.objs.size ≤ dx → dx ≠ a → h'.get? a = some { cls := .ref C, dict := some dx, data := .fields #[.ref t1, .none, .none, .none, .bool false, .none] } →
      h'.Ns1 dx (fun y => if y = f then some v else none) → wpAny (model P w) A (execs rest env) Q E { s with heap := h', toks := tk }) :
    wpAny (model P w) A (execs (putS f q1 q2 q3 q4 :: rest) env) Q E s := by
  subst he
  obtain ⟨nm, rfl⟩ := S.is
  have I0 : InstAt s.heap a (HandSPX.excO C t1) C none := ⟨ho, rfl, rfl, trivial⟩
  refine wpAny_execs_cons (plainObj_wpAny_Assign_Attribute ?_)
  refine wpAny_Name (wpAny_loadName_local (v := v) S.kind (S.hf _ hmem) hns hv (wpAny_Name (wpAny_loadName_local (v := .ref a) S.kind S.self hns hself ?_) (by decide))) hd
  refine set_plain X I0 T.sa ?_
  obtain ⟨hh, g, d, t, os⟩ := s
  refine osa_openX T.SF X I0 T.ov (r := none) (by unfold takerIn; rw [T.noN _ hmem]; rfl) fun b => ?_
  obtain ⟨cd, hc, hh'⟩ := any_some T.hd
  have hcls : Looks (model P w) hh (classData C) cd := looks_clsIn X hc
  have hxs : a ≠ hh.objs.size := Nat.ne_of_lt (Heap.lt_size ho)
  show wpAny _ _ (storeInOwnDict (.ref a) (.ref C) (.str f _) f v b) _ _ _
  obtain ⟨nm, bs, mro, ns, qn, hd0, sn, sb, ab, col, del⟩ := cd
  dsimp only at hh'
  subst hh'
  unfold storeInOwnDict ownDictForStores
  repeat (first | with_reducible refine HandSPX.store_in_new ?_ ?_ | with_reducible refine wpAny_loadPart_at ho ?_ | with_reducible refine hcls.at ?_ | wp_step)
  · exact ⟨_, #[], _, (Heap.get?_update_ne _ _ _ _ hxs.symm).trans (Heap.get?_push_at rfl rfl), rfl, fun e he => absurd he (by simp), fun _ => rfl⟩
  · intro h' tk' hn' hs
    have hx₁ : (hh.push { cls := .type "dict", data := .dict #[] }).get? a = some (HandSPX.excO C t1) := Heap.get?_push_of_some _ ho
    refine h h' tk' hh.objs.size (fun b o hb ho => ?_) (Nat.le_refl _) hxs.symm ?_ hn'
    · exact (hs.2 b (Nat.ne_of_lt (Heap.lt_size ho))).trans ((Heap.get?_update_ne _ _ _ _ hb).trans (Heap.get?_push_of_some _ ho))
    · exact (hs.2 a hxs).trans (Heap.get?_update_self _ hx₁ rfl)
theorem x_put2 {env : Env} {L a dx : Addr} {m m0 : Str → Option Value} {fv : Array Value} {f : Str} {v : Value} {rest : List Stmt} {nl : List Str} {Q : Flow → Shared → Prop} {q1 q2 q3 q4 : Pos} (T : XTxt P K mg x C fI cc cda B newId initId bmB fs qual pa bd sc) (S : XScope sc fs) (he : env = ksEnv qual sc L fI (.ref cda) cc) (hmem : f ∈ fs) (X : K.In s.heap)
    (hns : s.heap.Ns L m) (hself : m "self" = some (.ref a)) (hv : m f = some v) (ho : s.heap.get? a = some { cls := .ref C, dict := some dx, data := .fields fv }) (hdx : s.heap.Ns1 dx m0) (hw : Within m0 nl) (hz : nl.length ≤ 1000) (hd : (f == ("__debug__" : Str)) = false)
    (h : ∀ h' tk, (∀ b o, b ≠ dx → s.heap.get? b = some o → h'.get? b = some o) → h'.Ns1 dx (fun y => if y = f then some v else m0 y) → wpAny (model P w) A (execs rest env) Q E { s with heap := h', toks := tk }) :
    wpAny (model P w) A (execs (putS f q1 q2 q3 q4 :: rest) env) Q E s := by
  subst he
  obtain ⟨oD, esD, epD, hoD, hdD, _⟩ := hdx.count hw
  have I0 : InstAt s.heap a { cls := .ref C, dict := some dx, data := .fields fv } C (some oD) := ⟨ho, rfl, rfl, hoD⟩
  refine wpAny_execs_cons (plainObj_wpAny_Assign_Attribute ?_)
  refine wpAny_Name (wpAny_loadName_local (v := v) S.kind (S.hf _ hmem) hns hv (wpAny_Name (wpAny_loadName_local (v := .ref a) S.kind S.self hns hself ?_) (by decide))) hd
  refine set_plain X I0 T.sa ?_
  obtain ⟨hh, g, d, t, os⟩ := s
  refine osa_openX T.SF X I0 T.ov (r := none) (by unfold takerIn; rw [T.noN _ hmem]; rfl) fun b => ?_
  obtain ⟨cd, hc, hh'⟩ := any_some T.hd
  have hcls : Looks (model P w) hh (classData C) cd := looks_clsIn X hc
  show wpAny _ _ (storeInOwnDict (.ref a) (.ref C) (.str f _) f v b) _ _ _
  obtain ⟨nm, bs, mro, ns, qn, hd0, sn, sb, ab, col, del⟩ := cd
  dsimp only at hh'
  subst hh'
  unfold storeInOwnDict ownDictForStores
  repeat (first | with_reducible refine ESX.store_in_old hdx hw hz ?_ | with_reducible refine wpAny_loadPart_at ho ?_ | with_reducible refine hcls.at ?_ | wp_step)
  intro h' tk' hn' hs
  exact h h' tk' (fun b o hb ho => (hs.2 b hb).trans ho) hn'
end
end
end K56
namespace K56
open PySem PySem.Spec PyProof.Rows L2
section
open PySem.W PySem.Calls Builtin Builtin.ObjectAttr
/-- what __init__ leaves of a fresh exception at a -/
structure XEnd (h h' : Heap) (a C dx : Addr) (m : Str → Option Value) : Prop where
  keep : ∀ b o, b ≠ a → h.get? b = some o → h'.get? b = some o
  obj : ∃ t1, h'.get? a = some { cls := .ref C, dict := some dx, data := .fields #[.ref t1, .none, .none, .none, .bool false, .none] }
  dbig : h.objs.size ≤ dx
  dne : dx ≠ a
  ns : h'.Ns1 dx m
/-- a made one -/
structure XMade (h h' : Heap) (e C d : Addr) (m : Str → Option Value) : Prop where
  keep : ∀ b o, h.get? b = some o → h'.get? b = some o
  new : h.objs.size ≤ e
  obj : ∃ oe vs, h'.get? e = some oe ∧ oe.cls = .ref C ∧ oe.dict = some d ∧ oe.data = .fields vs ∧ vs[1]? = some .none
  dbig : h.objs.size ≤ d
  dne : d ≠ e
  ns : h'.Ns1 d m
section
variable {P : Program} {w : World} {A : Around} {E : Value → Shared → Prop} {R : Result → Shared → Prop} {s : Shared} {K : Frag} {mg mb : Str → Option Value} {x : Str} {C fI cc cda : Addr} {B newId initId : String} {bmB : List Value} {fs : List Str} {qual : Str} {pa : Arguments} {bd body : List Stmt} {sc : Scope}
theorem ns_keep {h h' : Heap} {L a : Addr} {m : Str → Option Value} {o : Obj} (n : h.Ns L m) (k : ∀ b o, b ≠ a → h.get? b = some o → h'.get? b = some o) (hL : L ≠ a) : h'.Ns L m := by
  obtain ⟨oL, es, ep, ho, r⟩ := n
  exact ⟨oL, es, ep, k _ _ hL ho, r⟩
theorem x_in1 {a t0 : Addr} {f : Str} {v : Value} {p0 p1 p2 p3 p4 q1 q2 q3 q4 : Pos} (T : XTxt P K mg x C fI cc cda B newId initId bmB fs qual pa bd sc) (S : XScope sc fs) (hpa : (pa.posonlyargs ++ pa.args).head?.map (·.arg) = some "self")
    (hbd : bd = [supS p0 p1 p2 p3 p4, putS f q1 q2 q3 q4]) (hl : (p2.endLine == p3.line) = true) (hf : fs = [f]) (hd : (f == ("__debug__" : Str)) = false) (hfs : f ≠ "self")
    (hbind : ∀ (kV doc pm : Value) (an : Option Addr) (ct : Value), BindsTo s (ksFn "__init__" qual pa bd sc .none kV doc pm an (.ref cda) ct cc) ⟨[.ref a, v], []⟩ [("self", .ref a), (f, v)])
    (X : K.In s.heap) (hlim : s.heap.NoLimit) (hg : s.heap.Ns mainGlobals mg) (hb : s.heap.Ns builtinsNs mb) (hmb : mb "super" = some (.type "super")) (ho : s.heap.get? a = some (HandSPX.excO C t0)) (hroom : A.depth < recursionLimit)
    (hnK : K.lookup a = none)
    (h : ∀ h' tk dx, XEnd s.heap h' a C dx (fun y => if y = f then some v else none) → R (.ok (.ret .none)) { s with heap := h', toks := tk }) :
    codeAny (model P w) A (.call (.ref fI) ⟨[.ref a, v], []⟩) R s := by
  subst hf
  obtain ⟨oc, od, kV, doc, pm, an, ct, osl, hfo, hcode⟩ := T.fn
  have hloc : ∀ y ∈ [(("self" : Str), Value.ref a), (f, v)], sc.names.lookup y.1 = some .local := fun y hy => by
    rcases List.mem_cons.mp hy with rfl | hy
    · exact S.self
    · rcases List.mem_cons.mp hy with rfl | hy
      · exact S.hf _ (List.mem_singleton.mpr rfl)
      · cases hy
  refine ks_codeAny_call_defAt (fd := ksFn "__init__" qual pa bd sc .none kV doc pm an (.ref cda) ct cc) (body := bd) hroom (X _ _ hfo) rfl hlim (codeRec_of X hcode) rfl (hbind _ _ _ _ _) S.cell hloc (fun h₁ hns k1 => ?_) S.co S.gen S.kind
  have hLa : s.heap.objs.size ≠ a := Nat.ne_of_gt (Heap.lt_size ho)
  have m1 : (fun x => List.lookup x [(("self" : Str), Value.ref a), (f, v)].reverse) ("self" : Str) = some (.ref a) := by
    show List.lookup _ [(f, v), ("self", Value.ref a)] = _
    have e : ((("self" : Str)) == f) = false := by simpa using fun z => hfs z.symm
    simp [List.lookup, e]
  have m2 : (fun x => List.lookup x [(("self" : Str), Value.ref a), (f, v)].reverse) f = some v := by
    show List.lookup _ [(f, v), ("self", Value.ref a)] = _
    simp [List.lookup]
  have hbd' := hbd
  show _root_.PySem.wpAt (model P w) (A.deeper (ksEnv qual sc s.heap.objs.size fI (.ref cda) cc)) (.func bd (ksEnv qual sc s.heap.objs.size fI (.ref cda) cc)) (execs bd (ksEnv qual sc s.heap.objs.size fI (.ref cda) cc)) _ _ _
  rw [show execs bd = execs [supS p0 p1 p2 p3 p4, putS f q1 q2 q3 q4] from congrArg _ hbd]
  obtain ⟨hh, g, d, tk, os⟩ := s
  refine x_super (m := fun x => List.lookup x [(("self" : Str), Value.ref a), (f, v)].reverse) T S hl hpa (X.keeps k1) hns m1 (k1 _ _ ho) (hg.keeps k1) (hb.keeps k1) hmb fun h2 tk2 t1 k2 e2 => ?_
  have X2 : K.In h2 := fun b o e => k2 b o (fun z => by rw [z, hnK] at e; cases e) (k1 b o (X b o e))
  refine x_put1 T S rfl (List.mem_singleton.mpr rfl) X2 (ns_keep (o := HandSPX.excO C t1) hns k2 hLa) m1 m2 e2 hd fun h3 tk3 dx k3 dn dne e3 hn3 => ?_
  refine wpAny_execs_nil (h h3 tk3 dx ⟨fun b o hb e => k3 b o hb (k2 b o hb (k1 b o e)), ⟨t1, e3⟩, ?_, dne, hn3⟩)
  have z1 : hh.objs.size < h2.objs.size := (ns_keep (o := HandSPX.excO C t1) hns k2 hLa).lt
  exact Nat.le_of_lt (Nat.lt_of_lt_of_le z1 dn)
theorem x_in2 {a t0 : Addr} {f g : Str} {v u : Value} {p0 p1 p2 p3 p4 q1 q2 q3 q4 r1 r2 r3 r4 : Pos} (T : XTxt P K mg x C fI cc cda B newId initId bmB fs qual pa bd sc) (S : XScope sc fs) (hpa : (pa.posonlyargs ++ pa.args).head?.map (·.arg) = some "self")
    (hbd : bd = [supS p0 p1 p2 p3 p4, putS f q1 q2 q3 q4, putS g r1 r2 r3 r4]) (hl : (p2.endLine == p3.line) = true) (hf : fs = [f, g]) (hd : (f == ("__debug__" : Str)) = false) (hdg : (g == ("__debug__" : Str)) = false) (hfs : f ≠ "self") (hgs : g ≠ "self") (hfg : f ≠ g)
    (hbind : ∀ (kV doc pm : Value) (an : Option Addr) (ct : Value), BindsTo s (ksFn "__init__" qual pa bd sc .none kV doc pm an (.ref cda) ct cc) ⟨[.ref a, v, u], []⟩ [("self", .ref a), (f, v), (g, u)])
    (X : K.In s.heap) (hlim : s.heap.NoLimit) (hg : s.heap.Ns mainGlobals mg) (hb : s.heap.Ns builtinsNs mb) (hmb : mb "super" = some (.type "super")) (ho : s.heap.get? a = some (HandSPX.excO C t0)) (hroom : A.depth < recursionLimit)
    (hnK : K.lookup a = none)
    (h : ∀ h' tk dx, XEnd s.heap h' a C dx (fun y => if y = g then some u else if y = f then some v else none) → R (.ok (.ret .none)) { s with heap := h', toks := tk }) :
    codeAny (model P w) A (.call (.ref fI) ⟨[.ref a, v, u], []⟩) R s := by
  subst hf
  obtain ⟨oc, od, kV, doc, pm, an, ct, osl, hfo, hcode⟩ := T.fn
  have hloc : ∀ y ∈ [(("self" : Str), Value.ref a), (f, v), (g, u)], sc.names.lookup y.1 = some .local := fun y hy => by
    rcases List.mem_cons.mp hy with rfl | hy
    · exact S.self
    · rcases List.mem_cons.mp hy with rfl | hy
      · exact S.hf _ (by simp)
      · rcases List.mem_cons.mp hy with rfl | hy
        · exact S.hf _ (by simp)
        · cases hy
  refine ks_codeAny_call_defAt (fd := ksFn "__init__" qual pa bd sc .none kV doc pm an (.ref cda) ct cc) (body := bd) hroom (X _ _ hfo) rfl hlim (codeRec_of X hcode) rfl (hbind _ _ _ _ _) S.cell hloc (fun h₁ hns k1 => ?_) S.co S.gen S.kind
  have hLa : s.heap.objs.size ≠ a := Nat.ne_of_gt (Heap.lt_size ho)
  have e1 : ((("self" : Str)) == f) = false := by simpa using fun z => hfs z.symm
  have e2 : ((("self" : Str)) == g) = false := by simpa using fun z => hgs z.symm
  have e3 : (f == g) = false := by simpa using hfg
  have m1 : (fun x => List.lookup x [(("self" : Str), Value.ref a), (f, v), (g, u)].reverse) ("self" : Str) = some (.ref a) := by
    show List.lookup _ [(g, u), (f, v), ("self", Value.ref a)] = _
    simp [List.lookup, e1, e2]
  have m2 : (fun x => List.lookup x [(("self" : Str), Value.ref a), (f, v), (g, u)].reverse) f = some v := by
    show List.lookup _ [(g, u), (f, v), ("self", Value.ref a)] = _
    simp [List.lookup, e3]
  have m3 : (fun x => List.lookup x [(("self" : Str), Value.ref a), (f, v), (g, u)].reverse) g = some u := by
    show List.lookup _ [(g, u), (f, v), ("self", Value.ref a)] = _
    simp [List.lookup]
  show _root_.PySem.wpAt (model P w) (A.deeper (ksEnv qual sc s.heap.objs.size fI (.ref cda) cc)) (.func bd (ksEnv qual sc s.heap.objs.size fI (.ref cda) cc)) (execs bd (ksEnv qual sc s.heap.objs.size fI (.ref cda) cc)) _ _ _
  rw [show execs bd = execs [supS p0 p1 p2 p3 p4, putS f q1 q2 q3 q4, putS g r1 r2 r3 r4] from congrArg _ hbd]
  obtain ⟨hh, ge, d, tk, os⟩ := s
  refine x_super (m := fun x => List.lookup x [(("self" : Str), Value.ref a), (f, v), (g, u)].reverse) T S hl hpa (X.keeps k1) hns m1 (k1 _ _ ho) (hg.keeps k1) (hb.keeps k1) hmb fun h2 tk2 t1 k2 e2 => ?_
  have kk : ∀ b o, K.lookup b = some o → b ≠ a := fun b o e z => by rw [z, hnK] at e; cases e
  have X2 : K.In h2 := fun b o e => k2 b o (kk b o e) (k1 b o (X b o e))
  have n2 := ns_keep (o := HandSPX.excO C t1) hns k2 hLa
  refine x_put1 T S rfl (by simp) X2 n2 m1 m2 e2 hd fun h3 tk3 dx k3 dn dne e3 hn3 => ?_
  have z1 : hh.objs.size < h2.objs.size := n2.lt
  have z2 : hh.objs.size ≤ dx := Nat.le_of_lt (Nat.lt_of_lt_of_le z1 dn)
  have X3 : K.In h3 := fun b o e => k3 b o (kk b o e) (X2 b o e)
  have n3 := ns_keep (o := HandSPX.excO C t1) n2 k3 hLa
  have old : ∀ b o, h2.get? b = some o → b ≠ dx := fun b o e => Nat.ne_of_lt (Nat.lt_of_lt_of_le (Heap.lt_size e) dn)
  refine x_put2 T S rfl (by simp) X3 n3 m1 m3 e3 hn3 (nl := [f]) (fun y hy => by
    by_cases c : y = f
    · rw [c]; exact List.mem_singleton.mpr rfl
    · exact absurd (if_neg c) hy) (show 1 ≤ 1000 by decide) hdg fun h4 tk4 k4 hn4 => ?_
  refine wpAny_execs_nil (h h4 tk4 dx ⟨fun b o hb e => k4 b o ?_ (k3 b o hb (k2 b o hb (k1 b o e))), ⟨t1, k4 _ _ (fun z => dne z.symm) e3⟩, z2, dne, hn4⟩)
  exact old b o (k2 b o hb (k1 b o e))
/-- C(v, ..) made -/
theorem x_made {rest : List Value} {m : Str → Option Value} (T : XTxt P K mg x C fI cc cda B newId initId bmB fs qual pa bd sc) (X : K.In s.heap) (hrest : rest.length ≤ sizeLine)
    (hin : ∀ (A' : Around) (s' : Shared) (a t0 : Addr) (R' : Result → Shared → Prop), A'.depth = A.depth + 1 → (∀ b o, s.heap.get? b = some o → s'.heap.get? b = some o) → a = s.heap.objs.size + 1 → s'.heap.get? a = some (HandSPX.excO C t0) → K.lookup a = none → s'.gens = s.gens → s'.drawn = s.drawn → s'.os = s.os →
      (∀ h' tk dx, XEnd s'.heap h' a C dx m → R' (.ok (.ret .none)) { s' with heap := h', toks := tk }) → codeAny (model P w) A' (.call (.ref fI) ⟨.ref a :: rest, []⟩) R' s')
    (h : ∀ h' tk e d, XMade s.heap h' e C d m → R (.ok (.ret (.ref e))) { s with heap := h', toks := tk }) :
    codeAny (model P w) A (.call (.ref C) ⟨rest, []⟩) R s := by
  obtain ⟨nm, N', qn, bs, bm, hdct, sn, sub, ab, col, dd, k0, k1, k2, k3, k5, hC, hT⟩ := excInit_of X T.q
  obtain ⟨oI, hoI, hcI⟩ : ∃ oI, s.heap.get? fI = some oI ∧ oI.cls = .type "function" := by
    obtain ⟨o, ho, hc⟩ := Option.map_eq_some_iff.mp (show (K.lookup fI).map (·.cls) = some (.type "function") from beq_iff_eq.mp T.tC)
    exact ⟨o, X _ _ ho, hc⟩
  obtain ⟨hp, g, dr, tk, os⟩ := s
  have k : ∀ b o, hp.get? b = some o → ((hp.push (kdv_tup rest)).push (HandSPX.excO C hp.objs.size)).get? b = some o := fun b o e => Heap.get?_push_of_some _ (Heap.get?_push_of_some _ e)
  have hget : ((hp.push (kdv_tup rest)).push (HandSPX.excO C hp.objs.size)).get? (hp.objs.size + 1) = some (HandSPX.excO C hp.objs.size) := by heap_get
  have hnx : K.lookup (hp.objs.size + 1) = none := by
    cases e : K.lookup (hp.objs.size + 1) with
    | none => rfl
    | some o =>
      have z : hp.get? (hp.objs.size + 1) = some o := X _ _ e
      exact absurd (Nat.lt_of_succ_lt (Heap.lt_size z)) (Nat.lt_irrefl _)
  refine HandSPX.call_own T.FB hT hC (looks_findIn X T.iC) (fun self => exc_bind hoI hcI self) hrest ?_
  refine hin _ _ _ _ _ rfl k rfl hget hnx rfl rfl rfl fun h' tk' dx ⟨k', ⟨t1, hx⟩, dn, dne, hns⟩ => ?_
  have old : ∀ b o, hp.get? b = some o → h'.get? b = some o := fun b o e => k' b o (Nat.ne_of_lt (Nat.lt_succ_of_lt (Heap.lt_size e))) (k b o e)
  have z : hp.objs.size + 1 + 1 ≤ dx := by
    have q := dn
    rw [Heap.size_push, Heap.size_push] at q
    exact q
  exact ⟨rfl, h h' tk' (hp.objs.size + 1) dx ⟨old, Nat.le_succ _, ⟨_, _, hx, rfl, rfl, rfl, rfl⟩, Nat.le_trans (Nat.le_trans (Nat.le_succ _) (Nat.le_succ _)) z, dne, hns⟩⟩
end
end
end K56
namespace K56
open PySem PySem.Spec PyProof.Rows L2
section
open PySem.W PySem.Calls
/-- an own exception class at C whose __init__ says super().__init__() and stores its one argument as f -/
structure X1 (P : Program) (K : Frag) (mg : Str → Option Value) (x : Str) (C : Addr) (f : Str) : Prop where
  ex : ∃ (fI cc cda : Addr) (B newId initId : String) (bmB : List Value) (qual : Str) (pa : Arguments) (bd : List Stmt) (sc : Scope) (p0 p1 p2 p3 p4 q1 q2 q3 q4 : Pos),
    XTxt P K mg x C fI cc cda B newId initId bmB [f] qual pa bd sc ∧ XScope sc [f] ∧ (pa.posonlyargs ++ pa.args).head?.map (·.arg) = some "self" ∧ bd = [supS p0 p1 p2 p3 p4, putS f q1 q2 q3 q4] ∧ (p2.endLine == p3.line) = true ∧ (f == ("__debug__" : Str)) = false ∧ f ≠ "self" ∧
    (∀ (s : Shared) (kV doc pm : Value) (an : Option Addr) (ct : Value) (a : Addr) (v : Value), BindsTo s (ksFn "__init__" qual pa bd sc .none kV doc pm an (.ref cda) ct cc) ⟨[.ref a, v], []⟩ [("self", .ref a), (f, v)])
structure X2 (P : Program) (K : Frag) (mg : Str → Option Value) (x : Str) (C : Addr) (f g : Str) : Prop where
  ex : ∃ (fI cc cda : Addr) (B newId initId : String) (bmB : List Value) (qual : Str) (pa : Arguments) (bd : List Stmt) (sc : Scope) (p0 p1 p2 p3 p4 q1 q2 q3 q4 r1 r2 r3 r4 : Pos),
    XTxt P K mg x C fI cc cda B newId initId bmB [f, g] qual pa bd sc ∧ XScope sc [f, g] ∧ (pa.posonlyargs ++ pa.args).head?.map (·.arg) = some "self" ∧ bd = [supS p0 p1 p2 p3 p4, putS f q1 q2 q3 q4, putS g r1 r2 r3 r4] ∧ (p2.endLine == p3.line) = true ∧
    (f == ("__debug__" : Str)) = false ∧ (g == ("__debug__" : Str)) = false ∧ f ≠ "self" ∧ g ≠ "self" ∧ f ≠ g ∧
    (∀ (s : Shared) (kV doc pm : Value) (an : Option Addr) (ct : Value) (a : Addr) (v u : Value), BindsTo s (ksFn "__init__" qual pa bd sc .none kV doc pm an (.ref cda) ct cc) ⟨[.ref a, v, u], []⟩ [("self", .ref a), (f, v), (g, u)])
end
theorem relO_one {v : V} {v' : Value} {f : Str} (r : RelV v v') (y : Str) : RelO (List.lookup y [(f, v)]) (if y = f then some v' else none) := by
  by_cases hw : y = f
  · subst hw
    rw [if_pos rfl]
    have q : List.lookup y [(y, v)] = some v := by simp [List.lookup]
    rw [q]
    exact r
  · rw [if_neg hw]
    have qw : (y == f) = false := by simpa using hw
    have q2 : List.lookup y [(f, v)] = none := by simp [List.lookup, qw]
    rw [q2]
    trivial
theorem relO_two {v u : V} {v' u' : Value} {f g : Str} (r : RelV v v') (r' : RelV u u') (y : Str) : RelO (List.lookup y [(g, u), (f, v)]) (if y = g then some u' else if y = f then some v' else none) := by
  by_cases hw : y = g
  · subst hw
    rw [if_pos rfl]
    have q : List.lookup y [(y, u), (f, v)] = some u := by simp [List.lookup]
    rw [q]
    exact r'
  · rw [if_neg hw]
    have qw : (y == g) = false := by simpa using hw
    have q2 : List.lookup y [(g, u), (f, v)] = List.lookup y [(f, v)] := by simp [List.lookup, qw]
    rw [q2]
    exact relO_one r y
section
variable {X : Cx} {C : Addr} {x f g : Str}
/-- the fresh exception laid beside the heap -/
theorem mk_x {pins : List (Addr × Obj)} {σ : L2.St} {Q : XK} {H1 : Hp} {hp : Heap} {gn : Array GenState} {dr : Drawn} {tk : Nat} {os : OsState} {h' : Heap} {tk' : Nat} {e d : Addr} {m : Str → Option Value} {fs : List (Str × V)} (I1 : Inv X pins σ H1 ⟨hp, gn, dr, tk, os⟩) (M : XMade hp h' e C d m) (rv : ∀ y, RelO (fs.lookup y) (m y))
    (exC : PySem.W.subIn X.K (.ref C) (.type "BaseException") = some true) (tyC : PySem.W.typeIn X.K (.ref C) = some (.type "type")) (q1 : ∀ d, H1 d = none → Q (.ref C) (some d) (upd H1 d (.xd fs))) : MkP X pins σ Q (.ref e) ⟨h', gn, dr, tk', os⟩ := by
  obtain ⟨oe, fv, hoe, hc, hd, hdat, h1⟩ := M.obj
  have hns := M.ns
  obtain ⟨G', g1, g2⟩ := restrict h' fun b => decide (b ≠ e)
  have gk : ∀ b, b ≠ e → G'.get? b = h'.get? b := fun b hb => g1 b (decide_eq_true hb)
  have ge : G'.get? e = none := g2 e (by simp)
  have old : ∀ b o, hp.get? b = some o → G'.get? b = some o := fun b o q => (gk b (Nat.ne_of_lt (Nat.lt_of_lt_of_le (Heap.lt_size q) M.new))).trans (M.keep b o q)
  have ob : ObjOk X.prog X.w (upd H1 d (.xd fs)) G' d (.xd fs) :=
    ⟨_, hns.at (fun o q => (gk d M.dne).trans q), fun f => rv f⟩
  have J : Inv X pins σ (upd H1 d (.xd fs)) ⟨G', gn, dr, tk', os⟩ := I1.laid (t' := tk') old M.dbig ob
  refine ⟨e, oe, fv, ⟨G', gn, dr, tk', os⟩, _, .ref C, some d, rfl, J, fun b o q => ?_, ge, hoe, ⟨hc, hd⟩, hdat, h1, ?_, rfl, I1.bare, raises_own exC tyC, q1 d (I1.hok.fresh M.dbig)⟩
  · by_cases hb : b = e
    · have q' : G'.get? b = some o := q
      rw [hb, ge] at q'; cases q'
    · exact (gk b hb).symm.trans q
  · rw [upd_ne (Ne.symm M.dne)]
    exact I1.hok.fresh M.new
theorem blt_keep {pins : List (Addr × Obj)} {σ : L2.St} {H : Hp} {s s' : Shared} (I : Inv X pins σ H s) (k : ∀ b o, s.heap.get? b = some o → s'.heap.get? b = some o) :
    s'.heap.Ns mainGlobals X.mg ∧ ∃ mb, s'.heap.Ns builtinsNs mb ∧ mb "super" = some (.type "super") := by
  obtain ⟨mb, h1, h2⟩ := I.mod.blt
  exact ⟨(I.mod.glob.keeps I.bk).keeps k, mb, (h1.keeps I.bk).keeps k, (h2 _ (by decide)).trans boot_super⟩
/-- C(e) -/
def tMkX1 (C : Addr) (f : Str) (ta : TA) : L2.St → Hp → XK → Prop := fun σ H Q => ta σ H fun vs H1 => ∃ v, vs = [v] ∧ ∀ d, H1 d = none → Q (.ref C) (some d) (upd H1 d (.xd [(f, v)]))
theorem pmk_x1 {a : Expr} {ta : TA} {p pos : Pos} {k : Nat} (T : X1 X.prog X.K X.mg x C f) (hr : Room k X.A) (ha : PA X [a] ta) (hg : Gl X x) (hdb : (x == ("__debug__" : Str)) = false := by decide)
    (he : starEach (a :: []) X.env = (false, eval a X.env) :: starEach [] X.env := by rfl) (hpl : (backTo pos (starEach [] X.env)).any (·.1) = false := by rfl) :
    PMk X (.Call (.Name x p) [a] [] pos) (tMkX1 C f ta) := by
  obtain ⟨fI, cc, cda, B, newId, initId, bmB, qual, pa, bd, sc, p0, p1, p2, p3, p4, q1, q2, q3, q4, T, S, hpa, hbd, hl, hd, hfs, hbind⟩ := T.ex
  intro pins s σ H Q I h
  refine wpAny_Call_Name_kw (ld_glob I hg T.gC ?_ hdb)
  refine PySem.W.callWith_K (h₀ := X.base) I.ok.mod.kin T.kC (thn (ha.run pos pins s σ H _ I h) fun us s1 hh => ?_) he hpl
  obtain ⟨vs, H1, I1, r1, v, ev, qk⟩ := hh
  subst ev
  refine ⟨I1.kIn, ?_⟩
  cases r1 with
  | cons rv rn =>
    rename_i v' us'
    cases rn
    show wpAny _ _ (call (.ref C) [v']) _ _ _
    have hlim := I1.nolimit
    refine wpAny_call (x_made (rest := [v']) (m := fun y => if y = f then some v' else none) T I1.kIn (by rw [sizeLine_eq]; exact (by decide : 1 ≤ 16777216)) (fun A' s' a t0 R' hA hk ha0 ho hnK hg2 hd2 ho2 hq => ?_) fun h' tk' e d M => ?_)
    · obtain ⟨gg, mb, gb, hmb⟩ := blt_keep I1 hk
      exact x_in1 T S hpa hbd hl rfl hd hfs (fun _ _ _ _ _ => hbind _ _ _ _ _ _ _ _) (I1.kIn.keeps hk) (hlim.keeps hk) gg gb hmb ho (by rw [hA]; have := hr.dp; omega) hnK hq
    · obtain ⟨hp, g, dr, tk, os⟩ := s1
      exact mk_x I1 M (fun y => relO_one rv y) T.exC T.tyC qk
/-- C(e, e') -/
def tMkX2 (C : Addr) (f g : Str) (ta : TA) : L2.St → Hp → XK → Prop := fun σ H Q => ta σ H fun vs H1 => ∃ v u, vs = [v, u] ∧ ∀ d, H1 d = none → Q (.ref C) (some d) (upd H1 d (.xd [(g, u), (f, v)]))
theorem pmk_x2 {a b : Expr} {ta : TA} {p pos : Pos} {k : Nat} (T : X2 X.prog X.K X.mg x C f g) (hr : Room k X.A) (ha : PA X [a, b] ta) (hg : Gl X x) (hdb : (x == ("__debug__" : Str)) = false := by decide)
    (he : starEach (a :: [b]) X.env = (false, eval a X.env) :: starEach [b] X.env := by rfl) (hpl : (backTo pos (starEach [b] X.env)).any (·.1) = false := by rfl) :
    PMk X (.Call (.Name x p) [a, b] [] pos) (tMkX2 C f g ta) := by
  obtain ⟨fI, cc, cda, B, newId, initId, bmB, qual, pa, bd, sc, p0, p1, p2, p3, p4, q1, q2, q3, q4, r1, r2, r3, r4, T, S, hpa, hbd, hl, hd, hdg, hfs, hgs, hfg, hbind⟩ := T.ex
  intro pins s σ H Q I h
  refine wpAny_Call_Name_kw (ld_glob I hg T.gC ?_ hdb)
  refine PySem.W.callWith_K (h₀ := X.base) I.ok.mod.kin T.kC (thn (ha.run pos pins s σ H _ I h) fun us s1 hh => ?_) he hpl
  obtain ⟨vs, H1, I1, r1, v, u, ev, qk⟩ := hh
  subst ev
  refine ⟨I1.kIn, ?_⟩
  cases r1 with
  | cons rv rn =>
    rename_i v' us'
    cases rn with
    | cons ru rn =>
      rename_i u' us'
      cases rn
      show wpAny _ _ (call (.ref C) [v', u']) _ _ _
      have hlim := I1.nolimit
      refine wpAny_call (x_made (rest := [v', u']) (m := fun y => if y = g then some u' else if y = f then some v' else none) T I1.kIn (by rw [sizeLine_eq]; exact (by decide : 2 ≤ 16777216)) (fun A' s' a t0 R' hA hk ha0 ho hnK hg2 hd2 ho2 hq => ?_) fun h' tk' e d M => ?_)
      · obtain ⟨gg, mb, gb, hmb⟩ := blt_keep I1 hk
        exact x_in2 T S hpa hbd hl rfl hd hdg hfs hgs hfg (fun _ _ _ _ _ => hbind _ _ _ _ _ _ _ _ _) (I1.kIn.keeps hk) (hlim.keeps hk) gg gb hmb ho (by rw [hA]; have := hr.dp; omega) hnK hq
      · obtain ⟨hp, gn, dr, tk, os⟩ := s1
        exact mk_x I1 M (fun y => relO_two rv ru y) T.exC T.tyC qk
/-- X(), X an own exception class without own __init__ -/
theorem pmk_own0 {bmB : List Value} {B newId initId : String} {p pos : Pos} (F : ExcBaseFacts B newId initId bmB) (q : PySem.W.excIn X.K C bmB newId = true) (gC : X.mg x = some (.ref C))
    (kC : PySem.W.keepIn X.K (.ref C) = true) (r : Raises X (.ref C)) (hg : Gl X x) (hdb : (x == ("__debug__" : Str)) = false := by decide) :
    PMk X (.Call (.Name x p) [] [] pos) (fun _ H Q => Q (.ref C) none H) := by
  intro pins s σ H Q I h
  refine wpAny_Call_Name_kw (ld_glob I hg gC ?_ hdb)
  refine PySem.W.callWith_K0 I.kIn kC ?_
  show wpAny _ _ (call (.ref C) []) _ _ _
  obtain ⟨bm, N, nm, qn, bs, hdct, sn, sub, ab, col, dd, k0, k1, k2, k3, k5, mN, hC, hN, hni, T⟩ := exc_obj I.kIn q
  refine wpAny_call_exc_subT F T hC hN hni (fun h' e hm => ?_) (Nat.zero_le _)
  exact mk_of I hm r h (I.hok.gone hm.new)
end
end K56
namespace K56
open PySem PySem.Spec PyProof.Rows L2
/-! ### try with several except clauses, some of them 'as e' -/
/-- a clause: the class, the slot of its name (none: no name), what the suite wishes -/
abbrev Hd := Value × Option Nat × (Addr → Value → Option Addr → TS)
def hdStart (o : Option Nat) (a : Addr) (σ : L2.St) : L2.St := match o with | none => σ | some i => σ.set i (some (.ref a))
def hdEnds (o : Option Nat) (D : Ends) : Ends := match o with | none => D | some i => { nx := fun σ' H' => D.nx (σ'.set i none) H', rt := D.rt, bk := fun σ' H' => D.bk (σ'.set i none) H', ct := fun σ' H' => D.ct (σ'.set i none) H' }
def wHds (K : PySem.W.Frag) (Wout : WX) (D : Ends) : List Hd → WX
  | [] => Wout
  | (c, o, ts) :: r => fun cls d σ H => ∃ b, PySem.W.exmOne K cls c = some b ∧ (b = true → ∀ a, H a = none → ts a cls d (hdEnds o D) (hdStart o a σ) H) ∧ (b = false → wHds K Wout D r cls d σ H)
inductive Hds (X : Cx) : List ExceptHandler → List Hd → Prop
  | nil : Hds X [] []
  | plain {x : Str} {c : Value} {ts : Addr → Value → Option Addr → TS} {b₀ : Stmt} {suite : List Stmt} {np pos' : Pos} {hds : List ExceptHandler} {l : List Hd} (hc : Names X x c)
      (hsu : ∀ (a : Addr) (oe : Obj) (cls : Value) (d : Option Addr) (pn : List (Addr × Obj)), Zc cls d oe → (∃ vs, oe.data = .fields vs) → PSs (X.suite a ((a, oe) :: pn)) (b₀ :: suite) (ts a cls d)) (r : Hds X hds l) :
      Hds X (.ExceptHandler (some (.Name x np)) none (b₀ :: suite) pos' :: hds) ((c, none, ts) :: l)
  | named {x n : Str} {i : Nat} {c : Value} {ts : Addr → Value → Option Addr → TS} {b₀ : Stmt} {suite : List Stmt} {np pos' : Pos} {hds : List ExceptHandler} {l : List Hd} (hi : X.N[i]? = some n) (hln : X.env.kindOf n = some .local) (hc : Names X x c)
      (hsu : ∀ (a : Addr) (oe : Obj) (cls : Value) (d : Option Addr) (pn : List (Addr × Obj)), Zc cls d oe → (∃ vs, oe.data = .fields vs) → PSs (X.suite a ((a, oe) :: pn)) (b₀ :: suite) (ts a cls d)) (r : Hds X hds l) :
      Hds X (.ExceptHandler (some (.Name x np)) (some n) (b₀ :: suite) pos' :: hds) ((c, some i, ts) :: l)
section
variable {X : Cx} {body : List Stmt} {h₀ : ExceptHandler} {hds : List ExceptHandler} {l : List Hd} {pos : Pos} {tb : WX → TS} {Wout : WX}
theorem ps_try_hds (hs : X.stack = X.env :: X.outer) (hf : X.env.frame = some X.env.locals) (hN : X.N.Nodup) (tk : Takes X Wout)
    (hb : ∀ (W : WX) (pn : List (Addr × Obj)) (xe : Value → Shared → Prop), Takes (X.tr pn xe) W → PassesOwn (model X.prog X.w) X.A X.env xe → PSs (X.tr pn xe) body (tb W))
    (hh : Hds X (h₀ :: hds) l) : PS X (.Try body (h₀ :: hds) [] [] pos) (fun D σ H => tb (wHds X.K Wout D l) D σ H) := by
  refine ⟨fun pins s σ H D I h => ?_⟩
  have ok := I.ok
  have hfr : X.A.frames = some (X.env :: X.outer) := by rw [ok.frames, hs]
  refine wpAny_Try_except ?_
  refine wpAny_mono ((hb (wHds X.K Wout D l) (X.pn ++ pins) (fun e s₁ => wpAny (model X.prog X.w) X.A (noteFrame e X.env) (fun _ s₂ => wpAny (model X.prog X.w) X.A (setFlight e none) (fun _ s₃ =>
    wpAny (model X.prog X.w) X.A (handleBy e X.env (h₀ :: hds)) (SP X pins D) X.xe s₃) X.xe s₂) X.xe s₁) (fun u s' xx => ?_) PassesOwn.looking).run [] s σ H D (I.toTry _) h) (fun f s1 hsp => ?_) (fun e s1 he => he)
  · -- the catch
    obtain ⟨a, B, sI, pins', σ', H', cls, d, rfl, J', nb, up, sky, na, os, ag, w⟩ := xx
    have J : Inv X pins σ' H' sI := J'.ofTry ok
    have sky' : Sky B (X.env :: X.outer) a (Zc cls d) X.env.locals s'.heap := by rw [← hs]; exact sky
    show wpAny (model X.prog X.w) X.A (noteFrame (.ref a) X.env) _ _ _
    refine Sky.land Zc.steady hfr hf sky' fun h3 fl3 up3 => ?_
    have J3 : Inv X pins σ' H' { s' with heap := h3 } := J.landed nb fl3.1 (up.trans up3) os ag
    obtain ⟨oe3, vs3, he3, hz3, hd3⟩ := fl3.there
    have notFr : ∀ {h : Heap} {o : Obj} {vs : Array Value}, h.FunFrames B (X.env :: X.outer) → h.get? a = some o → o.data = .fields vs → a ∉ frs (X.env :: X.outer) := fun {h o vs} ff e dd hm => by
      obtain ⟨_, o', e', hnf⟩ := ff.mem hm
      rw [e] at e'; cases e'
      exact hnf _ dd
    have nfr := notFr fl3.2.2.1 he3 hd3
    have nL : a ≠ X.env.locals := fun z => nfr (List.mem_filterMap.mpr ⟨X.env, List.mem_cons_self, by rw [hf, z]⟩)
    have nF : a ∉ X.fs := fun hm => by
      obtain ⟨e, he, q⟩ := List.mem_filterMap.mp hm
      exact nfr (List.mem_filterMap.mpr ⟨e, List.mem_cons_of_mem _ he, q⟩)
    have S3 := J3.suite he3 hd3 na nL nF
    have LT : PySem.W.Looks (model X.prog X.w) h3 (typeOf (.ref a)) cls := fun A Q E s k q => wpAny_typeOf_ref (k _ _ he3) (by rw [hz3.1]; exact q)
    have test : ∀ {x : Str} {c : Value} {np : Pos} {Q : Value → Shared → Prop} {E : Value → Shared → Prop}, Names X x c → Q c { s' with heap := h3 } → wpAny (model X.prog X.w) (X.A.mark (some (.ref a))) (eval (.Name x np) X.env) Q E { s' with heap := h3 } := fun {x c np Q E} hc q => by
      obtain ⟨hg, hdbg, hm | ⟨hm, hv, hnn⟩⟩ := hc
      · exact ld_glob (X := X.suite a ((a, oe3) :: (X.pn ++ pins))) S3 hg hm q hdbg
      · exact ld_blt (X := X.suite a ((a, oe3) :: (X.pn ++ pins))) S3 hg hm hv q hnn hdbg
    have go : ∀ {hds' : List ExceptHandler} {l' : List Hd}, Hds X hds' l' → wHds X.K Wout D l' cls d σ' H' →
        wpAny (model X.prog X.w) X.A (handleBy (.ref a) X.env hds') (SP X pins D) X.xe { s' with heap := h3 } := by
      intro hds' l' hk
      induction hk with
      | nil =>
        intro w
        refine wpAny_handleBy_nil ?_
        obtain ⟨k1, k2, k3, oe, vs, T, oT, ts', he, hz, hd, h1, hr⟩ := id fl3
        unfold PySem.passOn
        refine wpAny_bind (wpAny_field he hd h1 ?_)
        rw [if_neg (show ¬ ((Value.ref T == Value.none) = true) from by simp)]
        have fin : wpAny (model X.prog X.w) X.A (setFlight (.ref a) X.env.frame) (fun _ s4 => wpAny (model X.prog X.w) X.A (throw (.ref a) : Sem Flow) (SP X pins D) X.xe s4) X.xe { s' with heap := h3 } := by
          rw [hf]
          refine HandSPX.setFlight_upZ fl3 fun h4 hh4 up4 => wpAny_throw (tk _ _ ?_)
          exact ⟨a, B, sI, pins, σ', H', cls, d, rfl, J, nb, (up.trans up3).trans up4, .inr (.inr (by rw [hs]; exact hh4)), na, os, ag, w⟩
        first
          | exact wpAny_bind (wpAny_pure (wpAny_bind fin))
          | exact wpAny_bind fin
      | @plain x c ts b₀ suite np pos' hds2 l2 hc hsu r ih =>
        intro w
        obtain ⟨b, hb1, hyes, hno⟩ := w
        refine wpAny_handleBy_cons (codeAny_handlers_test ?_) (by intro q; cases q)
        have LM := PySem.W.exm_one (M := model X.prog X.w) (J3.kIn) LT hb1
        refine test hc (LM.here ?_)
        cases b with
        | true =>
          refine codeAny_handlers_suite ?_
          refine HandSPX.lands_againZ fl3 fun h4 fl4 up4 => ?_
          have J4 : Inv X pins σ' H' { s' with heap := h4 } := J.landed nb fl4.1 ((up.trans up3).trans up4) os ag
          obtain ⟨oe4, vs4, he4, hz4, hd4⟩ := fl4.there
          have S4 := J4.suite he4 hd4 na nL nF
          refine wpAny_mono ((hsu a oe4 cls d (X.pn ++ pins) hz4 ⟨_, hd4⟩).run [] _ _ H' _ S4 (hyes rfl a na)) (fun f s6 hsp => ?_) (fun _ _ z => False.elim z)
          cases f with
          | next =>
            obtain ⟨σ6, H6, S6, q6⟩ := hsp
            exact ⟨_, _, S6.unsuite ok, q6⟩
          | brk =>
            obtain ⟨σ6, H6, S6, q6⟩ := hsp
            exact ⟨_, _, S6.unsuite ok, q6⟩
          | cont =>
            obtain ⟨σ6, H6, S6, q6⟩ := hsp
            exact ⟨_, _, S6.unsuite ok, q6⟩
          | ret u =>
            obtain ⟨v6, σ6, H6, S6, r6, q6⟩ := hsp
            exact ⟨_, _, _, S6.unsuite ok, r6, q6⟩
        | false =>
          show wpAny _ X.A (handleBy (.ref a) X.env hds2) _ _ _
          exact ih (hno rfl)
      | @named x n i c ts b₀ suite np pos' hds2 l2 hi hln hc hsu r ih =>
        intro w
        have hloc : Loc X.env.scope n := .inl hln
        obtain ⟨b, hb1, hyes, hno⟩ := w
        refine wpAny_handleBy_cons (codeAny_handlers_test ?_) (by intro q; cases q)
        have LM := PySem.W.exm_one (M := model X.prog X.w) (J3.kIn) LT hb1
        refine test hc (LM.here ?_)
        cases b with
        | true =>
          refine codeAny_handlers_suite_as ?_
          refine HandSPX.lands_againZ fl3 fun h4 fl4 up4 => ?_
          have J4 : Inv X pins σ' H' { s' with heap := h4 } := J.landed nb fl4.1 ((up.trans up3).trans up4) os ag
          obtain ⟨oe4, vs4, he4, hz4, hd4⟩ := fl4.there
          have S4 := J4.suite he4 hd4 na nL nF
          refine store_ok (X := X.suite a ((a, oe4) :: (X.pn ++ pins))) (v := .ref a) S4 hN hi hloc rfl (fun s5 S5 => ?_) (.inr hln)
          refine wpAny_mono ((hsu a oe4 cls d (X.pn ++ pins) hz4 ⟨_, hd4⟩).run [] s5 _ H' _ S5 (hyes rfl a na)) (fun f s6 hsp => ?_) (fun _ _ z => False.elim z)
          have end_ : ∀ {σ6 : L2.St} {H6 : Hp} {Q : Shared → Prop}, Inv (X.suite a ((a, oe4) :: (X.pn ++ pins))) [] σ6 H6 s6 → (∀ s7, Inv X pins (σ6.set i none) H6 s7 → Q s7) →
              wpAny (model X.prog X.w) X.A (do bindName X.env n .none; unbindBehindTheSuite X.env n pos') (fun _ s7 => Q s7) X.xe s6 := fun {σ6 H6 Q} S6 hq => gone_ok (S6.unsuite ok) hN hi hln hq
          cases f with
          | next =>
            obtain ⟨σ6, H6, S6, q6⟩ := hsp
            exact end_ S6 fun s7 J7 => ⟨_, _, J7, q6⟩
          | brk =>
            obtain ⟨σ6, H6, S6, q6⟩ := hsp
            exact end_ S6 fun s7 J7 => ⟨_, _, J7, q6⟩
          | cont =>
            obtain ⟨σ6, H6, S6, q6⟩ := hsp
            exact end_ S6 fun s7 J7 => ⟨_, _, J7, q6⟩
          | ret u =>
            obtain ⟨v6, σ6, H6, S6, r6, q6⟩ := hsp
            exact end_ S6 fun s7 J7 => ⟨_, _, _, J7, r6, q6⟩
        | false =>
          show wpAny _ X.A (handleBy (.ref a) X.env hds2) _ _ _
          exact ih (hno rfl)
    exact go hh w
  · cases f with
    | next =>
      obtain ⟨σ', H', J', q⟩ := hsp
      exact wpAny_execs_nil ⟨σ', H', J'.ofTry ok, q⟩
    | brk =>
      obtain ⟨σ', H', J', q⟩ := hsp
      exact ⟨σ', H', J'.ofTry ok, q⟩
    | cont =>
      obtain ⟨σ', H', J', q⟩ := hsp
      exact ⟨σ', H', J'.ofTry ok, q⟩
    | ret u =>
      obtain ⟨v, σ', H', J', r, q⟩ := hsp
      exact ⟨v, σ', H', J'.ofTry ok, r, q⟩
end
end K56
namespace K56
open PySem PySem.Spec PyProof.Rows L2
/-! ### dicts whose keys are nested tuples of whole numbers -/
mutual
inductive NK (H : Hp) : NestedKey → V → Prop
  | int (i : Int) : NK H (.num i) (.int i)
  | tup {a : Addr} {vs : List V} {ks : List NestedKey} : H a = some (.tup vs) → NKs H ks vs → NK H (.tup ks) (.ref a)
inductive NKs (H : Hp) : List NestedKey → List V → Prop
  | nil : NKs H [] []
  | cons {k v ks vs} : NK H k v → NKs H ks vs → NKs H (k :: ks) (v :: vs)
end
mutual
theorem NK.is {P : Program} {w : World} {H : Hp} {h : Heap} (hok : HOk P w H h) : ∀ {k : NestedKey} {v : V} {u : Value}, NK H k v → RelV v u → NestedIs h k u
  | _, _, u, .int i, r => by
    obtain ⟨t, rfl⟩ := r
    exact .int i t
  | _, _, u, @NK.tup _ a vs ks ha hs, r => by
    obtain rfl : u = Value.ref a := r
    have x : ObjOk P w H h a (.tup vs) := hok a _ ha
    obtain ⟨_, its, rv, o, ho, hc, n, hd⟩ := x
    exact .tup ho hc hd (NKs.is hok hs (by simpa using rv))
theorem NKs.is {P : Program} {w : World} {H : Hp} {h : Heap} (hok : HOk P w H h) : ∀ {ks : List NestedKey} {vs : List V} {us : List Value}, NKs H ks vs → Vals vs us → NestedAll h ks us
  | _, _, us, .nil, r => by cases r; exact .nil
  | _, _, us, .cons hk hs, r => by
    cases r with
    | cons r1 r2 => exact .cons (NK.is hok hk r1) (NKs.is hok hs r2)
end
mutual
theorem NK.mono {H H' : Hp} (e : Same H H') : ∀ {k : NestedKey} {v : V}, NK H k v → NK H' k v
  | _, _, .int i => .int i
  | _, _, .tup ha hs => .tup (e _ _ ha) (NKs.mono e hs)
theorem NKs.mono {H H' : Hp} (e : Same H H') : ∀ {ks : List NestedKey} {vs : List V}, NKs H ks vs → NKs H' ks vs
  | _, _, .nil => .nil
  | _, _, .cons hk hs => .cons (NK.mono e hk) (NKs.mono e hs)
end
abbrev ND := NestedKey × Addr × Int
/-- an entry's value in the model -/
def ndRel (x : ND) (y : NestedKey × Addr × Value) : Prop := y.1 = x.1 ∧ y.2.1 = x.2.1 ∧ RelV (.int x.2.2) y.2.2
/-- at d: a dict of such keys, its values whole numbers; the keys' own tuples are told beside -/
def nd (P : Program) (w : World) (d : Addr) (xs : List ND) : HO := .ext fun h => (d == sysModules) = false ∧ ∃ o es ep ys, h.get? d = some o ∧ o.ExactDict ∧ o.data = .dict es ep ∧ es.toList = ys.map (entryOfKey (nestedKind P w)) ∧ Paired ndRel xs ys
/-- the keys stand in H -/
structure NDk (H : Hp) (xs : List ND) : Prop where
  key : ∀ x ∈ xs, NK H x.1 (.ref x.2.1) ∧ x.1.depth ≤ 8
  nodup : (xs.map (·.1)).Nodup
  len : xs.length < sizeLine
def ndFind (xs : List ND) (k : NestedKey) : Option Int := (xs.find? fun x => decide (x.1 = k)).map (·.2.2)
theorem paired_len {α β : Type} {R : α → β → Prop} : ∀ {xs : List α} {ys : List β}, Paired R xs ys → ys.length = xs.length
  | _, _, .nil => rfl
  | _, _, .cons _ r => by rw [List.length_cons, List.length_cons, paired_len r]
theorem nd_keys : ∀ {xs : List ND} {ys : List (NestedKey × Addr × Value)}, Paired ndRel xs ys → ys.map (·.1) = xs.map (·.1)
  | _, _, .nil => rfl
  | _, _, .cons h r => by rw [List.map_cons, List.map_cons, nd_keys r, h.1]
theorem nd_mem : ∀ {xs : List ND} {ys : List (NestedKey × Addr × Value)}, Paired ndRel xs ys → ∀ y ∈ ys, ∃ x ∈ xs, ndRel x y
  | _, _, .nil, y, h => by cases h
  | _, _, .cons (a := a) h r, y, hy => by
    rcases List.mem_cons.mp hy with rfl | hy
    · exact ⟨_, List.mem_cons_self, h⟩
    · obtain ⟨x, hx, q⟩ := nd_mem r y hy
      exact ⟨x, List.mem_cons_of_mem _ hx, q⟩
theorem nd_find {k : NestedKey} : ∀ {xs : List ND} {ys : List (NestedKey × Addr × Value)}, Paired ndRel xs ys → (ndFind xs k = none → atKey ys k = none) ∧ ∀ i, ndFind xs k = some i → ∃ a t, atKey ys k = some (a, .int i t)
  | _, _, .nil => ⟨fun _ => rfl, fun i h => by cases h⟩
  | x :: xs, y :: ys, .cons h r => by
    obtain ⟨i1, i2⟩ := nd_find (k := k) r
    by_cases c : x.1 = k
    · have e1 : ndFind (x :: xs) k = some x.2.2 := by unfold ndFind; rw [List.find?_cons_of_pos (by simpa using c)]; rfl
      have e2 : atKey (y :: ys) k = some y.2 := by unfold atKey; rw [List.find?_cons_of_pos (by simpa using h.1.trans c)]; rfl
      rw [e1, e2]
      refine ⟨(fun z => nomatch z), fun i z => ?_⟩
      obtain rfl := Option.some.inj z
      obtain ⟨t, ht⟩ := h.2.2
      exact ⟨y.2.1, t, by rw [← ht]⟩
    · have e1 : ndFind (x :: xs) k = ndFind xs k := by unfold ndFind; rw [List.find?_cons_of_neg (by simpa using c)]
      have e2 : atKey (y :: ys) k = atKey ys k := by unfold atKey; rw [List.find?_cons_of_neg (by simpa using fun z => c (h.1.symm.trans z))]
      rw [e1, e2]
      exact ⟨i1, i2⟩
section
variable {X : Cx} {pins : List (Addr × Obj)} {σ : L2.St} {H : Hp} {s : Shared} {d : Addr} {xs : List ND}
theorem nd_at (I : Inv X pins σ H s) (e : H d = some (nd X.prog X.w d xs)) (K : NDk H xs) : (d == sysModules) = false ∧ ∃ ys, s.heap.DictOfH (nestedKind X.prog X.w) d ys ∧ Paired ndRel xs ys := by
  have x : ObjOk X.prog X.w H s.heap d (nd X.prog X.w d xs) := I.hok d _ e
  obtain ⟨⟨hd, o, es, ep, ys, ho, hc, hdt, he, hp⟩, _⟩ := x
  refine ⟨hd, ys, ⟨o, es, ep, ho, hc, hdt, he, fun y hy => ?_, by rw [nd_keys hp]; exact K.nodup⟩, hp⟩
  obtain ⟨x, hx, h1, h2, _⟩ := nd_mem hp y hy
  obtain ⟨k1, k2⟩ := K.key x hx
  rw [h1, h2]
  exact ⟨NK.is I.hok k1 rfl, k2⟩
def rInND (P : Program) (w : World) (f : Bool → Bool) : R2 := fun x y H Q => ∃ a d xs k, x = .ref a ∧ y = .ref d ∧ H d = some (nd P w d xs) ∧ NDk H xs ∧ NK H k (.ref a) ∧ k.depth ≤ 8 ∧ Q (.bl (f (ndFind xs k).isSome)) H
theorem op_notInND (hu : X.A.units + 9 < cLine) : OpR X (compareOp .NotIn) (rInND X.prog X.w fun b => !b) := by
  intro pins s σ H x y v u Q I rx ry h
  obtain ⟨a, d, xs, k, rfl, rfl, e, K, nk, hk, q⟩ := h
  cases rx
  cases ry
  obtain ⟨hd, ys, D, hp⟩ := nd_at I e K
  obtain ⟨f1, f2⟩ := nd_find (k := k) hp
  refine notIn_keyed (knd := nestedKind X.prog X.w) (k := k) (kvs := pairsH ys) (show X.A.in1.units + 8 < cLine by rw [Around.in1_units]; omega) ⟨NK.is I.hok nk rfl, hk⟩ hd ⟨ys, D, rfl⟩ ⟨.bl (!(valueAt (pairsH ys) k).isSome), H, I.tok _, rfl, ?_⟩
  rw [valueAt_pairsH, Option.isSome_map]
  cases z : ndFind xs k with
  | none => rw [f1 z]; rw [z] at q; exact q
  | some i =>
    obtain ⟨a', t, z'⟩ := f2 i z
    rw [z']; rw [z] at q; exact q
def rGetND (P : Program) (w : World) : R2 := fun x y H Q => ∃ a d xs k i, x = .ref d ∧ y = .ref a ∧ H d = some (nd P w d xs) ∧ NDk H xs ∧ NK H k (.ref a) ∧ k.depth ≤ 8 ∧ ndFind xs k = some i ∧ Q (.int i) H
theorem ix_nd (hu : X.A.units + 9 < cLine) : OpR X getItem (rGetND X.prog X.w) := by
  intro pins s σ H x y v u Q I rx ry h
  obtain ⟨a, d, xs, k, i, rfl, rfl, e, K, nk, hk, hi, q⟩ := h
  cases rx
  cases ry
  obtain ⟨hd, ys, D, hp⟩ := nd_at I e K
  obtain ⟨a', t, z⟩ := (nd_find (k := k) hp).2 i hi
  refine getItem_keyed (knd := nestedKind X.prog X.w) (k := k) (kvs := pairsH ys) (v := .int i t) (show X.A.in1.units + 8 < cLine by rw [Around.in1_units]; omega) ⟨NK.is I.hok nk rfl, hk⟩ ⟨ys, D, rfl⟩ (by rw [valueAt_pairsH, z]; rfl) ⟨.int i, H, I.tok _, ⟨_, rfl⟩, q⟩
/-- d[k] = i, k new -/
def rSetND (P : Program) (w : World) : TSet := fun o i v H Q => ∃ a d xs k n, o = .ref d ∧ i = .ref a ∧ v = .int n ∧ H d = some (nd P w d xs) ∧ NDk H xs ∧ NK H k (.ref a) ∧ k.depth ≤ 8 ∧ ndFind xs k = none ∧ Q (upd H d (nd P w d (xs ++ [(k, a, n)])))
theorem nd_ok {P : Program} {w : World} {H : Hp} {h : Heap} {d : Addr} {xs : List ND} {ys : List (NestedKey × Addr × Value)} (hd : (d == sysModules) = false) (D : h.DictOfH (nestedKind P w) d ys) (hp : Paired ndRel xs ys) : ObjOk P w H h d (nd P w d xs) := by
  obtain ⟨o, es, ep, ho, hc, hdt, he, _, _⟩ := D
  refine ⟨⟨hd, o, es, ep, ys, ho, hc, hdt, he, hp⟩, ⟨o, ho⟩, fun h1 h2 z k => ?_⟩
  obtain ⟨hd', o', es', ep', ys', ho', r⟩ := z
  exact ⟨hd', o', es', ep', ys', k _ ho', r⟩
theorem paired_snoc {α β : Type} {R : α → β → Prop} {x : α} {y : β} (h : R x y) : ∀ {xs : List α} {ys : List β}, Paired R xs ys → Paired R (xs ++ [x]) (ys ++ [y])
  | _, _, .nil => .cons h .nil
  | _, _, .cons a r => .cons a (paired_snoc h r)
theorem set_nd (hu : X.A.units + 9 < cLine) : PSet X (rSetND X.prog X.w) := by
  intro pins s σ H o i v ov iv u Q I ro ri rv h
  obtain ⟨a, d, xs, k, n, rfl, rfl, rfl, e, K, nk, hk, hi, q⟩ := h
  cases ro
  cases ri
  obtain ⟨t, rfl⟩ := rv
  obtain ⟨hd, ys, D, hp⟩ := nd_at I e K
  have hl : ys.length ≤ sizeLine := by rw [paired_len hp]; exact Nat.le_of_lt K.len
  refine wpAny_setItem_heap (knd := nestedKind X.prog X.w) (hsz := hl) (k := k) (show X.A.in1.units + 8 < cLine by rw [Around.in1_units]; omega) ⟨NK.is I.hok nk rfl, hk⟩ D fun h' D' hs => ?_
  rw [storedH_new ((nd_find (k := k) hp).1 hi)] at D'
  have he : ∃ q, h'.get? d = some q := let ⟨q, _, _, hq, _⟩ := D'; ⟨q, hq⟩
  refine ⟨_, d_write I (by rw [e]; exact True.intro) hs he (nd_ok hd D' (paired_snoc ⟨rfl, rfl, t, rfl⟩ hp)), q⟩
end
end K56
namespace K56
open PySem PySem.Spec PyProof.Rows L2
section
variable {prog : Program} {w : World} {A : Around} {E : Value → Shared → Prop} {s : Shared}
theorem put_pairs {K : Type} [DecidableEq K] {knd : KeyKind prog w K} {d : Addr} {kvs : List (K × Value)} {k : K} {key v : Value} {Q : Unit → Shared → Prop} (hkey : knd.is k key = true) (hm : s.heap.DictOf knd d kvs)
    (hQ : ∀ h', h'.DictOf knd d (stored kvs k v) → Heap.SameBut d s.heap h' → Q () { s with heap := h' })
    (hsz : kvs.length ≤ sizeLine) :
    wpAny (model prog w) A (dictPut d (knd.hash k) key v) Q E s := by
  obtain ⟨o, es, ep, ho, hc, hd, hk, hp, hn⟩ := hm
  have hes : es.size ≤ sizeLine := by have e1 := hp.length; have e2 : es.toList.length = es.size := by simp
                                      omega
  unfold dictPut
  refine wpAny_bind (wpAny_dictFind_of hkey ho hd hk ?_)
  have hidx : (es.findIdx? fun e => knd.is k e.key) = kvs.findIdx? fun kv => decide (kv.1 = k) := by
    rw [← hp.findIdx k]; obtain ⟨l⟩ := es; simp
  cases hi : es.findIdx? fun e => knd.is k e.key with
  | some i =>
    refine wpAny_updateDict ho hd (hQ _ ⟨_, _, ep, Heap.get?_update_self _ ho (Obj.isFreed_of_dict (Obj.data_mapDict hd _)),
      hc.mapDict _, Obj.data_mapDict hd _, hk.modify _ _, ?_, ?_⟩ (Heap.SameBut.update ..))
    · rw [stored, if_pos (any_of_findIdx_some (hidx ▸ hi))]
      have hl : (es.toList.findIdx? fun e => knd.is k e.key) = some i := by rw [← hi]; obtain ⟨l⟩ := es; simp
      have := hp.modify hn hl v
      obtain ⟨l⟩ := es
      simpa using this
    · rw [stored, if_pos (any_of_findIdx_some (hidx ▸ hi)), keys_map_store]; exact hn
  | none =>
    have hnot : k ∉ kvs.map (·.1) := not_mem_of_findIdx_none (hidx ▸ hi)
    have hany : ¬ (kvs.any fun kv => decide (kv.1 = k)) = true := by
      rw [List.any_eq_true]; rintro ⟨kv, hkv, he⟩
      exact hnot (List.mem_map.mpr ⟨kv, hkv, of_decide_eq_true he⟩)
    refine wpAny_updateDictKeys (hz := hes) ho hd (hQ _ ⟨_, _, ep + 1, Heap.get?_update_self _ ho (Obj.isFreed_of_dict (Obj.data_mapDictKeys hd _)),
      hc.mapDictKeys _, Obj.data_mapDictKeys hd _, hk.push hkey _, ?_, ?_⟩ (Heap.SameBut.update ..))
    · rw [stored, if_neg hany]
      have := hp.append hkey (knd.hash k) v
      obtain ⟨l⟩ := es
      simpa using this
    · rw [stored, if_neg hany, List.map_append, List.nodup_append]
      refine ⟨hn, by simp, ?_⟩
      intro a ha b hb
      simp only [List.map_cons, List.map_nil, List.mem_singleton] at hb
      subst hb
      exact fun e => hnot (e ▸ ha)
theorem mix_noref {k : Key} {key : Value} (h : (mixKind prog w).is k key = true) : ∀ a, key ≠ .ref a := by
  intro a e
  subst e
  cases k <;> cases h
theorem merge_map {d o : Addr} {kvs more : List (Key × Value)} {Q : Unit → Shared → Prop} (hdo : d ≠ o) (hoS : (o == sysModules) = false)
    (hd : s.heap.DictOf (mixKind prog w) d kvs) (ho : s.heap.DictOf (mixKind prog w) o more)
    (hQ : ∀ h' tk, h'.DictOf (mixKind prog w) d (merged kvs more) → h'.DictOf (mixKind prog w) o more → Heap.SameBut d s.heap h' → Q () { s with heap := h', toks := tk })
    (hsz : kvs.length + more.length ≤ sizeLine) :
    wpAny (model prog w) A (mergeMapping d (.ref o) false) Q E s := by
  obtain ⟨od, esd, epd, hod, hcd, hdd, hkd, hpd, hnd⟩ := id hd
  obtain ⟨oo, eso, epo, hoo, hco, hdo', hko, hpo, hno⟩ := id ho
  have hlen : more.length = eso.size := by rw [← hpo.length]; simp
  have loop : wpAny (model prog w) A (do
      let size := (← dictEntries o).size
      let epoch ← dictEpoch o
      forIn (List.range size) PUnit.unit fun i (_ : PUnit) => (do
        let l' ← dictEntries o
        match l'[i]? with
          | some e => do
            holding [e.key, e.val] (dictPut d e.hash e.key e.val)
            let ep' ← dictEpoch o
            if (ep' != epoch) = true then do
                (unsupported "dict.changed-during-merge" : Sem PUnit)
                pure (ForInStep.yield PUnit.unit)
              else pure (ForInStep.yield PUnit.unit)
          | _ => do
            (unsupported "dict.changed-during-merge" : Sem PUnit)
            pure (ForInStep.yield PUnit.unit) : Sem (ForInStep PUnit))
      pure ()) Q E s := by
    refine wpAny_bind (wpAny_dictEntries hoo hdo' ?_)
    refine wpAny_bind (wpAny_dictEpoch hoo hdo' ?_)
    refine wpAny_bind ?_
    refine wpAny_forIn_list _
      (fun rest _ s' => ∃ h' i, s' = { s with heap := h' } ∧ rest = List.range' i (eso.size - i) ∧ i ≤ eso.size ∧ h'.DictOf (mixKind prog w) d (merged kvs (more.take i)) ∧ h'.get? o = some oo ∧ Heap.SameBut d s.heap h')
      _ ?_ ?_ _ _ ⟨s.heap, 0, rfl, by simp [List.range_eq_range'], Nat.zero_le _, by simpa [merged] using hd, hoo, Heap.SameBut.refl _ _⟩
    · rintro x rest b s' ⟨h', i, rfl, hr, hi, hd', hoo', hs'⟩
      have hlt : i < eso.size := by
        rcases Nat.lt_or_ge i eso.size with h | h
        · exact h
        · rw [Nat.sub_eq_zero_of_le h] at hr; simp at hr
      obtain ⟨rfl, hrest⟩ : x = i ∧ rest = List.range' (i + 1) (eso.size - (i + 1)) := by
        have e : eso.size - i = (eso.size - (i + 1)) + 1 := by omega
        rw [e, List.range'_succ] at hr
        injection hr with h1 h2
        exact ⟨h1, h2⟩
      refine wpAny_bind (wpAny_dictEntries hoo' hdo' ?_)
      rw [Array.getElem?_eq_getElem hlt]
      obtain ⟨kv, hkv⟩ : ∃ kv, more[x]? = some kv := ⟨more[x]'(by rw [hlen]; exact hlt), List.getElem?_eq_getElem _⟩
      obtain ⟨k, v⟩ := kv
      obtain ⟨hkey, hval⟩ := hpo.get? (e := eso[x]) (by simp [hlt]) hkv
      obtain ⟨k', hkey', hhash⟩ := hko eso[x] (Array.getElem_mem hlt)
      obtain rfl : k' = k := (mixKind prog w).inj _ _ _ hkey' hkey
      show wpAny _ _ (holding [eso[x].key, eso[x].val] (dictPut d eso[x].hash eso[x].key eso[x].val) >>= _) _ _ _
      rw [hhash, hval]
      have hmx : (merged kvs (more.take x)).length ≤ sizeLine := by
        have e1 := merged_length_le kvs (more.take x)
        have e2 : (more.take x).length ≤ more.length := by rw [List.length_take]; omega
        omega
      refine wpAny_bind (wpAny_holding (put_pairs (hsz := hmx) hkey hd' fun h'' hd'' hs'' => ?_))
      have hoo'' : h''.get? o = some oo := (hs''.2 o (Ne.symm hdo)).trans hoo'
      refine wpAny_bind (wpAny_dictEpoch hoo'' hdo' ?_)
      rw [if_neg (by simp)]
      exact wpAny_pure ⟨h'', x + 1, rfl, hrest, hlt, by rw [merged_take_succ kvs more x (k', v) hkv]; exact hd'', hoo'', hs'.trans hs''⟩
    · rintro b s' ⟨h', i, rfl, hr, hi, hd', hoo', hs'⟩
      have hin : i = eso.size := by
        rcases Nat.lt_or_ge i eso.size with h | h
        · have e : eso.size - i = (eso.size - (i + 1)) + 1 := by omega
          rw [e, List.range'_succ] at hr; exact nomatch hr
        · exact Nat.le_antisymm hi h
      refine wpAny_pure (hQ h' s.toks ?_ ⟨oo, eso, epo, hoo', hco, hdo', hko, hpo, hno⟩ hs')
      rw [hin, ← hlen, List.take_length] at hd'; exact hd'
  have hT : s.TypeIs (.ref o) "dict" := ho.typeIs
  have hits : ∀ (es : Array DictEntry), KeysOf (mixKind prog w) es → ∀ e ∈ es.toList, ∀ a, e.key ≠ .ref a := fun es hk e he a => by
    obtain ⟨k, hk', _⟩ := hk e (Array.mem_toList_iff.mp he)
    exact mix_noref hk' a
  unfold mergeMapping
  have f1 := PySem.F.slot_dict_iter.lookup
  have f2 : isSubtype (.type "dict") (.type "dict") = pure true := by rw [isSubtype_type]; kernel_rfl
  repeat (first | with_reducible refine wpAny_dictEntries hod hdd ?_ | with_reducible refine wpAny_specialOf hT f1 ?_ | wp_step)
  split
  · refine wpAny_bind (wpAny_dictEntries hoo hdo' ?_)
    refine wpAny_bind ?_
    rw [← Array.forIn_toList]
    have key : ∀ (l : List DictEntry), (∀ e ∈ l, ∀ a, e.key ≠ .ref a) → ∀ (f : DictEntry → PUnit → Sem (ForInStep PUnit)), (∀ e, (∀ a, e.key ≠ .ref a) → f e PUnit.unit = pure (ForInStep.yield PUnit.unit)) → forIn l PUnit.unit f = pure PUnit.unit := by
      intro l
      induction l with
      | nil => intro _ f _; rfl
      | cons e l ih =>
        intro h f hf
        rw [List.forIn_cons, hf e (h e List.mem_cons_self)]
        exact ih (fun e' he' => h e' (List.mem_cons_of_mem _ he')) f hf
    rw [key _ (hits eso hko) _ (fun e he => by
      cases z : e.key with
      | ref a => exact absurd z (he a)
      | _ => rfl)]
    exact wpAny_pure loop
  · exact loop
end
end K56
namespace K56
open PySem PySem.Spec PyProof.Rows L2 PySem.Calls
section
variable {X : Cx}
/-- a tuple or a list beside an empty one -/
def rEqE (K : PySem.W.Frag) : R2 := fun x y H Q => ∃ a b xs, x = .ref a ∧ y = .ref b ∧ ((SqT K H a xs ∧ SqT K H b []) ∨ (SqL K H a xs ∧ SqL K H b [])) ∧ Q (.bl xs.isEmpty) H
theorem op_eqE (hu : X.A.units < cLine) : OpR X (compareOp .Eq) (rEqE X.K) := by
  intro pins s σ H x y v u Q I rx ry h
  obtain ⟨a, b, xs, rfl, rfl, h, q⟩ := h
  cases rx
  cases ry
  rcases h with ⟨h1, h2⟩ | ⟨h1, h2⟩
  · obtain ⟨its, rv, p, _⟩ := I.tuple h1
    obtain ⟨its2, rv2, p2, _⟩ := I.tuple h2
    cases rv2
    have l := rv.length
    refine SeqAt.RcAt.tuples (e := fun _ => true) (show s.heap.IsTuple a its.toArray from p) (show s.heap.IsTuple b #[] from p2) hu (fun j h1 h2 => absurd h2 (Nat.not_lt_zero _)) X.prog X.w _ _ ⟨.bl xs.isEmpty, H, I, ?_, q⟩
    show Value.bool _ = Value.bool _
    cases xs with
    | nil => cases rv; rfl
    | cons z zs => cases rv; rfl
  · obtain ⟨its, rv, p, _⟩ := I.list h1
    obtain ⟨its2, rv2, p2, _⟩ := I.list h2
    cases rv2
    cases xs with
    | nil =>
      cases rv
      exact SeqAt.RcAt.lists (e := fun _ => true) p.isList p2.isList rfl hu (fun j h1 h2 => absurd h2 (Nat.not_lt_zero _)) X.prog X.w _ _ ⟨.bl true, H, I, rfl, q⟩
    | cons z zs =>
      cases rv
      exact SeqAt.RcAt.lists_lengths p.isList p2.isList (by rfl) hu X.prog X.w _ _ ⟨.bl false, H, I, rfl, q⟩
/-- D.get(k), D a written dict of the module's top, its keys texts -/
def tKGet (K : PySem.W.Frag) (d : Addr) (ty : TE) : TE := fun σ H Q => ty σ H fun y H2 => ∃ z r v0, y = .str z ∧ PySem.W.nsIn K d z = some r ∧ (∀ u, r = some u → RelV v0 u) ∧ (r = none → v0 = .non) ∧ Q v0 H2
theorem pe_kget {d : Addr} {es : Array DictEntry} {n : Nat} {x : Str} {p apos cpos : Pos} {e : Expr} {ty : TE} (D : KDict X.K X.w d es n) (hg : Gl X x) (hm : X.mg x = some (.ref d)) (he : PE X e ty) (m : M1 X (.Name x p) "get" apos e cpos) (hdb : (x == ("__debug__" : Str)) = false := by decide) :
    PE X (.Call (.Attribute (.Name x p) "get" apos) [e] [] cpos) (tKGet X.K d ty) := by
  refine ⟨fun pins s σ H Q I h => ?_⟩
  refine wpAny_Call_method m.base m.few m.line PySem.F.plainAttrs_dict PySem.F.slot_dict_get PySem.F.type_dict_get (ld_glob I hg hm ?_ hdb)
  have T := kd_type (H := H) D I
  refine ⟨T, fun b e => ?_, ?_⟩
  · cases e
    exact ⟨_, I.kIn _ _ D.at_, rfl⟩
  rw [m.trees]
  refine Calls.callWith_builtin rfl (Calls.evalArgs_plain (Calls.spliced_cons (thn (he.run pins s σ H _ I h) fun iv s2 ⟨y, H2, I2, ry, z, r, v0, ey, en, e1, e2, q2⟩ => Calls.spliced_nil ?_)))
  subst ey
  obtain ⟨t, rfl⟩ := ry
  have mp := PySem.W.mapOf_K (prog := X.prog) (w := X.w) I2.kIn D.at_ D.lit
  refine call_meetsIn PySem.F.slot_dict_get (kd_type D I2) PySem.F.entry_dict_get (PySem.F.args_dict_get_2 _ _) (meets_dict_get (strKind X.prog X.w) d (PySem.strKind_is X.prog X.w z t) D.low) ⟨_, mp, ?_⟩
  have f := PySem.W.find_K D.at_ en
  cases r with
  | none =>
    rw [e2 rfl] at q2
    exact ⟨.non, H2, I2.tok _, by rw [f] <;> rfl, q2⟩
  | some u => exact ⟨v0, H2, I2.tok _, by rw [f]; exact e1 u rfl, q2⟩
end
section
variable {X : Cx} {pos : Pos} {ek ev : Expr} {tk tv : TE}
/-- {k: n}, k a nested key -/
def tDispN (P : Program) (w : World) (tk tv : TE) : TE := fun σ H Q => ∀ p, H p = none → tk σ (upd H p (nd P w p [])) fun x H1 => tv σ H1 fun y H2 => H2 p = some (nd P w p []) ∧ ∃ a k n, x = .ref a ∧ y = .int n ∧ NK H2 k (.ref a) ∧ k.depth ≤ 8 ∧ Q (.ref p) (upd H2 p (nd P w p [(k, a, n)]))
theorem pe_dispN (hu : X.A.units + 8 < cLine) (hk : PE X ek tk) (hv : PE X ev tv) : PE X (.Dict [some ek] [ev] pos) (tDispN X.prog X.w tk tv) := by
  refine ⟨fun pins s σ H Q I h => ?_⟩
  rw [arm_eval_Dict, zip_pairTrees [some ek] [ev] X.env pos rfl rfl, dictDisplay_pairs _ (by intro z; cases z) (Nat.lt_of_le_of_lt (Nat.le_of_eq (pairTrees_length [some ek] [ev] X.env pos rfl rfl)) (by show 1 < 17; decide))]
  have hn := I.hok.fresh (Nat.le_refl s.heap.objs.size)
  have hS : (s.heap.objs.size == sysModules) = false := beq_eq_false_iff_ne.mpr (Ne.symm (Nat.ne_of_lt I.big))
  have D0 : (s.heap.push { cls := .type "dict", data := .dict #[] }).DictOfH (nestedKind X.prog X.w) s.heap.objs.size [] := Heap.DictOfH.new s.heap
  have I1 := I.laid (a := s.heap.objs.size) (o := nd X.prog X.w s.heap.objs.size []) (h' := s.heap.push { cls := .type "dict", data := .dict #[] }) (t' := s.toks) (fun _ _ q => Heap.get?_push_of_some _ q) (Nat.le_refl _) (nd_ok hS D0 .nil)
  refine wpAny_bind (wpAny_standAt (wpAny_bind (wpAny_subDictH (knd := nestedKind X.prog X.w) (Q := fun d s' => wpAny (model X.prog X.w) X.A (pure (Value.ref d)) (EP X pins σ Q) X.xe s') hu (Nat.le_trans (Nat.le_of_eq (pairTrees_length [some ek] [ev] X.env pos rfl rfl)) (by show 1 ≤ 15; decide)) ?_)))
  refine pairTrees_cons_walk (thn (hk.run pins _ σ _ _ I1 (h _ hn)) fun u s1 ⟨x, H1, I2, rx, q1⟩ => thn (hv.run pins s1 σ H1 _ I2 q1) fun w2 s2 ⟨y, H2, I3, ry, e, a, k, n, ex, ey, nk, hd, q2⟩ => pairTrees_nil_walk ?_)
  subst ex
  subst ey
  obtain rfl : u = Value.ref a := rx
  obtain ⟨t, rfl⟩ := ry
  obtain ⟨_, ys, D, hp⟩ := nd_at I3 e ⟨(fun x hx => nomatch hx), List.nodup_nil, by rw [sizeLine_eq]; exact (by decide : 0 < 16777216)⟩
  cases hp
  refine ⟨[(k, a, .int n t)], ⟨rfl, rfl, ⟨NK.is I3.hok nk rfl, hd⟩, True.intro⟩, D, fun h' tk' D' hs => wpAny_pure ⟨.ref s.heap.objs.size, _, ?_, rfl, q2⟩⟩
  have he : ∃ q, h'.get? s.heap.objs.size = some q := let ⟨q, _, _, hq, _⟩ := D'; ⟨q, hq⟩
  exact d_write I3 (by rw [e]; exact True.intro) hs he (nd_ok hS D' (.cons ⟨rfl, rfl, t, rfl⟩ .nil))
end
end K56
namespace K56
open PySem PySem.Spec PyProof.Rows L2
abbrev PG : Program := PySem.Challenge.pw_pointrents_k56_whole_desks_through_deeds
def top (i : Nat) : Stmt := PG.main.body.getD i (.Pass ⟨0, 0, 0, 0⟩)
def inner (s : Stmt) : List Stmt := match s with
  | .ClassDef _ _ _ b _ _ _ _ _ _ _ => b
  | _ => []
def mem (i j : Nat) : Stmt := (inner (top i)).getD j (.Pass ⟨0, 0, 0, 0⟩)
abbrev s_is_integer : Stmt := top 26
def d_is_integer : He.DefD := ⟨("is_integer", none), "is_integer", "is_integer", defArgs s_is_integer, defBody s_is_integer, defScope s_is_integer, [], []⟩
abbrev s_is_between : Stmt := top 27
def d_is_between : He.DefD := ⟨("is_between", none), "is_between", "is_between", defArgs s_is_between, defBody s_is_between, defScope s_is_between, [], []⟩
abbrev s_is_name : Stmt := top 28
def d_is_name : He.DefD := ⟨("is_name", none), "is_name", "is_name", defArgs s_is_name, defBody s_is_name, defScope s_is_name, [], []⟩
abbrev s_is_band : Stmt := top 29
def d_is_band : He.DefD := ⟨("is_band", none), "is_band", "is_band", defArgs s_is_band, defBody s_is_band, defScope s_is_band, [], []⟩
abbrev s_check_band : Stmt := top 30
def d_check_band : He.DefD := ⟨("check_band", none), "check_band", "check_band", defArgs s_check_band, defBody s_check_band, defScope s_check_band, [], []⟩
abbrev s_moves_of : Stmt := top 31
def d_moves_of : He.DefD := ⟨("moves_of", none), "moves_of", "moves_of", defArgs s_moves_of, defBody s_moves_of, defScope s_moves_of, [], []⟩
abbrev s_bounds_of : Stmt := top 35
def d_bounds_of : He.DefD := ⟨("bounds_of", none), "bounds_of", "bounds_of", defArgs s_bounds_of, defBody s_bounds_of, defScope s_bounds_of, [], []⟩
abbrev s_is_part : Stmt := top 36
def d_is_part : He.DefD := ⟨("is_part", none), "is_part", "is_part", defArgs s_is_part, defBody s_is_part, defScope s_is_part, [], []⟩
abbrev s_Clause_init : Stmt := mem 39 0
def d_Clause_init : He.DefD := ⟨("Clause", some "__init__"), "__init__", "Clause.__init__", defArgs s_Clause_init, defBody s_Clause_init, defScope s_Clause_init, [.non, .non, .int 0, .int 0], []⟩
abbrev s_Clause_every : Stmt := mem 39 2
abbrev s_Clause_first : Stmt := mem 39 3
abbrev s_Clause_rate : Stmt := mem 39 4
abbrev s_Clause_floor : Stmt := mem 39 5
abbrev s_Clause_ceiling : Stmt := mem 39 6
abbrev s_Clause_keep : Stmt := mem 39 7
abbrev s_Clause_plus : Stmt := mem 39 8
abbrev s_Clause_begun : Stmt := mem 39 9
abbrev s_Clause_str : Stmt := mem 39 12
def d_Clause_str : He.DefD := ⟨("Clause", some "__str__"), "__str__", "Clause.__str__", defArgs s_Clause_str, defBody s_Clause_str, defScope s_Clause_str, [], []⟩
abbrev s_check_clause : Stmt := top 40
def d_check_clause : He.DefD := ⟨("check_clause", none), "check_clause", "check_clause", defArgs s_check_clause, defBody s_check_clause, defScope s_check_clause, [], []⟩
abbrev s_raise_of : Stmt := top 41
def d_raise_of : He.DefD := ⟨("raise_of", none), "raise_of", "raise_of", defArgs s_raise_of, defBody s_raise_of, defScope s_raise_of, [], []⟩
abbrev s_behind : Stmt := top 42
def d_behind : He.DefD := ⟨("behind", none), "behind", "behind", defArgs s_behind, defBody s_behind, defScope s_behind, [], []⟩
abbrev s_Web_init : Stmt := mem 44 0
def d_Web_init : He.DefD := ⟨("Web", some "__init__"), "__init__", "Web.__init__", defArgs s_Web_init, defBody s_Web_init, defScope s_Web_init, [], []⟩
abbrev s_Web_place_of : Stmt := mem 44 1
def d_Web_place_of : He.DefD := ⟨("Web", some "place_of"), "place_of", "Web.place_of", defArgs s_Web_place_of, defBody s_Web_place_of, defScope s_Web_place_of, [], []⟩
abbrev s_Web_course_to : Stmt := mem 44 2
def d_Web_course_to : He.DefD := ⟨("Web", some "course_to"), "course_to", "Web.course_to", defArgs s_Web_course_to, defBody s_Web_course_to, defScope s_Web_course_to, [], []⟩
abbrev s_Web_highest : Stmt := mem 44 3
def d_Web_highest : He.DefD := ⟨("Web", some "highest"), "highest", "Web.highest", defArgs s_Web_highest, defBody s_Web_highest, defScope s_Web_highest, [], []⟩
abbrev s_started : Stmt := top 45
def d_started : He.DefD := ⟨("started", none), "started", "started", defArgs s_started, defBody s_started, defScope s_started, [], []⟩
abbrev s_one_on : Stmt := top 46
def d_one_on : He.DefD := ⟨("one_on", none), "one_on", "one_on", defArgs s_one_on, defBody s_one_on, defScope s_one_on, [], []⟩
abbrev s_greater : Stmt := top 47
def d_greater : He.DefD := ⟨("greater", none), "greater", "greater", defArgs s_greater, defBody s_greater, defScope s_greater, [], []⟩
abbrev s_highest_of : Stmt := top 48
def d_highest_of : He.DefD := ⟨("highest_of", none), "highest_of", "highest_of", defArgs s_highest_of, defBody s_highest_of, defScope s_highest_of, [], []⟩
abbrev s_Race_init : Stmt := mem 50 0
def d_Race_init : He.DefD := ⟨("Race", some "__init__"), "__init__", "Race.__init__", defArgs s_Race_init, defBody s_Race_init, defScope s_Race_init, [], []⟩
abbrev s_Race_after : Stmt := mem 50 1
def d_Race_after : He.DefD := ⟨("Race", some "after"), "after", "Race.after", defArgs s_Race_after, defBody s_Race_after, defScope s_Race_after, [], []⟩
abbrev s_web_of : Stmt := top 51
def d_web_of : He.DefD := ⟨("web_of", none), "web_of", "web_of", defArgs s_web_of, defBody s_web_of, defScope s_web_of, [], []⟩
abbrev s_checked : Stmt := top 52
def d_checked : He.DefD := ⟨("checked", none), "checked", "checked", defArgs s_checked, defBody s_checked, defScope s_checked, [], []⟩
abbrev s_lead_in : Stmt := top 53
def d_lead_in : He.DefD := ⟨("lead_in", none), "lead_in", "lead_in", defArgs s_lead_in, defBody s_lead_in, defScope s_lead_in, [], []⟩
abbrev s_lead : Stmt := top 54
def d_lead : He.DefD := ⟨("lead", none), "lead", "lead", defArgs s_lead, defBody s_lead, defScope s_lead, [], []⟩
abbrev s_parting : Stmt := top 55
def d_parting : He.DefD := ⟨("parting", none), "parting", "parting", defArgs s_parting, defBody s_parting, defScope s_parting, [], []⟩
abbrev s_Walk_init : Stmt := mem 57 0
def d_Walk_init : He.DefD := ⟨("Walk", some "__init__"), "__init__", "Walk.__init__", defArgs s_Walk_init, defBody s_Walk_init, defScope s_Walk_init, [], []⟩
abbrev s_Walk_after : Stmt := mem 57 1
def d_Walk_after : He.DefD := ⟨("Walk", some "after"), "after", "Walk.after", defArgs s_Walk_after, defBody s_Walk_after, defScope s_Walk_after, [], []⟩
abbrev s_web_alone : Stmt := top 58
def d_web_alone : He.DefD := ⟨("web_alone", none), "web_alone", "web_alone", defArgs s_web_alone, defBody s_web_alone, defScope s_web_alone, [], []⟩
abbrev s_lowest : Stmt := top 60
def d_lowest : He.DefD := ⟨("lowest", none), "lowest", "lowest", defArgs s_lowest, defBody s_lowest, defScope s_lowest, [], []⟩
abbrev s_names_of : Stmt := top 63
def d_names_of : He.DefD := ⟨("names_of", none), "names_of", "names_of", defArgs s_names_of, defBody s_names_of, defScope s_names_of, [], []⟩
abbrev s_is_under : Stmt := top 64
def d_is_under : He.DefD := ⟨("is_under", none), "is_under", "is_under", defArgs s_is_under, defBody s_is_under, defScope s_is_under, [], []⟩
abbrev s_is_claim : Stmt := top 65
def d_is_claim : He.DefD := ⟨("is_claim", none), "is_claim", "is_claim", defArgs s_is_claim, defBody s_is_claim, defScope s_is_claim, [], []⟩
abbrev s_check_claim : Stmt := top 66
def d_check_claim : He.DefD := ⟨("check_claim", none), "check_claim", "check_claim", defArgs s_check_claim, defBody s_check_claim, defScope s_check_claim, [], []⟩
abbrev s_fault_of : Stmt := top 67
def d_fault_of : He.DefD := ⟨("fault_of", none), "fault_of", "fault_of", defArgs s_fault_of, defBody s_fault_of, defScope s_fault_of, [], []⟩
abbrev s_Desk_init : Stmt := mem 69 0
def d_Desk_init : He.DefD := ⟨("Desk", some "__init__"), "__init__", "Desk.__init__", defArgs s_Desk_init, defBody s_Desk_init, defScope s_Desk_init, [], []⟩
abbrev s_Desk_band : Stmt := mem 69 1
abbrev s_Desk_table : Stmt := mem 69 2
abbrev s_Desk_names : Stmt := mem 69 3
abbrev s_Desk_claims : Stmt := mem 69 4
abbrev s_Desk_changes : Stmt := mem 69 5
abbrev s_Desk_len : Stmt := mem 69 6
def d_Desk_len : He.DefD := ⟨("Desk", some "__len__"), "__len__", "Desk.__len__", defArgs s_Desk_len, defBody s_Desk_len, defScope s_Desk_len, [], []⟩
abbrev s_Desk_bool : Stmt := mem 69 7
def d_Desk_bool : He.DefD := ⟨("Desk", some "__bool__"), "__bool__", "Desk.__bool__", defArgs s_Desk_bool, defBody s_Desk_bool, defScope s_Desk_bool, [], []⟩
abbrev s_Desk_contains : Stmt := mem 69 9
def d_Desk_contains : He.DefD := ⟨("Desk", some "__contains__"), "__contains__", "Desk.__contains__", defArgs s_Desk_contains, defBody s_Desk_contains, defScope s_Desk_contains, [], []⟩
abbrev s_Desk_getitem : Stmt := mem 69 10
def d_Desk_getitem : He.DefD := ⟨("Desk", some "__getitem__"), "__getitem__", "Desk.__getitem__", defArgs s_Desk_getitem, defBody s_Desk_getitem, defScope s_Desk_getitem, [], []⟩
abbrev s_Desk_setitem : Stmt := mem 69 11
def d_Desk_setitem : He.DefD := ⟨("Desk", some "__setitem__"), "__setitem__", "Desk.__setitem__", defArgs s_Desk_setitem, defBody s_Desk_setitem, defScope s_Desk_setitem, [], []⟩
abbrev s_Desk_become : Stmt := mem 69 12
def d_Desk_become : He.DefD := ⟨("Desk", some "become"), "become", "Desk.become", defArgs s_Desk_become, defBody s_Desk_become, defScope s_Desk_become, [], []⟩
abbrev s_Desk_remove : Stmt := mem 69 13
def d_Desk_remove : He.DefD := ⟨("Desk", some "remove"), "remove", "Desk.remove", defArgs s_Desk_remove, defBody s_Desk_remove, defScope s_Desk_remove, [], []⟩
abbrev s_Desk_claim : Stmt := mem 69 14
def d_Desk_claim : He.DefD := ⟨("Desk", some "claim"), "claim", "Desk.claim", defArgs s_Desk_claim, defBody s_Desk_claim, defScope s_Desk_claim, [], []⟩
abbrev s_Desk_lift : Stmt := mem 69 15
def d_Desk_lift : He.DefD := ⟨("Desk", some "lift"), "lift", "Desk.lift", defArgs s_Desk_lift, defBody s_Desk_lift, defScope s_Desk_lift, [], []⟩
abbrev s_Desk_undo : Stmt := mem 69 16
def d_Desk_undo : He.DefD := ⟨("Desk", some "undo"), "undo", "Desk.undo", defArgs s_Desk_undo, defBody s_Desk_undo, defScope s_Desk_undo, [], []⟩
abbrev s_law_cup : Stmt := top 71
def d_law_cup : He.DefD := ⟨("_law_cup", none), "_law_cup", "_law_cup", defArgs s_law_cup, defBody s_law_cup, defScope s_law_cup, [], []⟩
abbrev s_law_sip : Stmt := top 72
def d_law_sip : He.DefD := ⟨("_law_sip", none), "_law_sip", "_law_sip", defArgs s_law_sip, defBody s_law_sip, defScope s_law_sip, [], []⟩
abbrev s_law_sketch : Stmt := top 73
def d_law_sketch : He.DefD := ⟨("_law_sketch", none), "_law_sketch", "_law_sketch", defArgs s_law_sketch, defBody s_law_sketch, defScope s_law_sketch, [], []⟩
abbrev s_law_near : Stmt := top 74
def d_law_near : He.DefD := ⟨("_law_near", none), "_law_near", "_law_near", defArgs s_law_near, defBody s_law_near, defScope s_law_near, [], []⟩
abbrev s_law_clause : Stmt := top 75
def d_law_clause : He.DefD := ⟨("_law_clause", none), "_law_clause", "_law_clause", defArgs s_law_clause, defBody s_law_clause, defScope s_law_clause, [], []⟩
abbrev s_law_band : Stmt := top 76
def d_law_band : He.DefD := ⟨("_law_band", none), "_law_band", "_law_band", defArgs s_law_band, defBody s_law_band, defScope s_law_band, [], []⟩
abbrev s_law_told : Stmt := top 77
def d_law_told : He.DefD := ⟨("_law_told", none), "_law_told", "_law_told", defArgs s_law_told, defBody s_law_told, defScope s_law_told, [], []⟩
abbrev s_law_names : Stmt := top 78
def d_law_names : He.DefD := ⟨("_law_names", none), "_law_names", "_law_names", defArgs s_law_names, defBody s_law_names, defScope s_law_names, [], []⟩
abbrev s_law_fault : Stmt := top 79
def d_law_fault : He.DefD := ⟨("_law_fault", none), "_law_fault", "_law_fault", defArgs s_law_fault, defBody s_law_fault, defScope s_law_fault, [], []⟩
abbrev s_law_broken : Stmt := top 80
def d_law_broken : He.DefD := ⟨("_law_broken", none), "_law_broken", "_law_broken", defArgs s_law_broken, defBody s_law_broken, defScope s_law_broken, [], []⟩
abbrev s_law_same : Stmt := top 81
def d_law_same : He.DefD := ⟨("_law_same", none), "_law_same", "_law_same", defArgs s_law_same, defBody s_law_same, defScope s_law_same, [], []⟩
abbrev s_law_due_deed : Stmt := top 82
def d_law_due_deed : He.DefD := ⟨("_law_due_deed", none), "_law_due_deed", "_law_due_deed", defArgs s_law_due_deed, defBody s_law_due_deed, defScope s_law_due_deed, [], []⟩
abbrev s_law_become : Stmt := top 83
def d_law_become : He.DefD := ⟨("_law_become", none), "_law_become", "_law_become", defArgs s_law_become, defBody s_law_become, defScope s_law_become, [], []⟩
abbrev s_law_put : Stmt := top 84
def d_law_put : He.DefD := ⟨("_law_put", none), "_law_put", "_law_put", defArgs s_law_put, defBody s_law_put, defScope s_law_put, [], []⟩
abbrev s_law_do : Stmt := top 85
def d_law_do : He.DefD := ⟨("_law_do", none), "_law_do", "_law_do", defArgs s_law_do, defBody s_law_do, defScope s_law_do, [], []⟩
abbrev s_law_did : Stmt := top 86
def d_law_did : He.DefD := ⟨("_law_did", none), "_law_did", "_law_did", defArgs s_law_did, defBody s_law_did, defScope s_law_did, [], []⟩
abbrev s_law_shelf : Stmt := top 87
def d_law_shelf : He.DefD := ⟨("_law_shelf", none), "_law_shelf", "_law_shelf", defArgs s_law_shelf, defBody s_law_shelf, defScope s_law_shelf, [], []⟩
abbrev s_law_drawn_claim : Stmt := top 88
def d_law_drawn_claim : He.DefD := ⟨("_law_drawn_claim", none), "_law_drawn_claim", "_law_drawn_claim", defArgs s_law_drawn_claim, defBody s_law_drawn_claim, defScope s_law_drawn_claim, [], []⟩
abbrev s_law_drawn_deed : Stmt := top 89
def d_law_drawn_deed : He.DefD := ⟨("_law_drawn_deed", none), "_law_drawn_deed", "_law_drawn_deed", defArgs s_law_drawn_deed, defBody s_law_drawn_deed, defScope s_law_drawn_deed, [], []⟩
abbrev s_law_right : Stmt := top 90
def d_law_right : He.DefD := ⟨("_law_right", none), "_law_right", "_law_right", defArgs s_law_right, defBody s_law_right, defScope s_law_right, [], []⟩
abbrev s_law : Stmt := top 91
def d_law : He.DefD := ⟨("law", none), "law", "law", defArgs s_law, defBody s_law, defScope s_law, [], []⟩
def fnL : List He.DefD := [d_is_integer, d_is_between, d_is_name, d_is_band, d_check_band, d_moves_of, d_bounds_of, d_is_part, d_Clause_init, d_Clause_str, d_check_clause, d_raise_of, d_behind, d_Web_init, d_Web_place_of, d_Web_course_to, d_Web_highest, d_started, d_one_on, d_greater, d_highest_of, d_Race_init, d_Race_after, d_web_of, d_checked, d_lead_in, d_lead, d_parting, d_Walk_init, d_Walk_after, d_web_alone, d_lowest, d_names_of, d_is_under, d_is_claim, d_check_claim, d_fault_of, d_Desk_init, d_Desk_len, d_Desk_bool, d_Desk_contains, d_Desk_getitem, d_Desk_setitem, d_Desk_become, d_Desk_remove, d_Desk_claim, d_Desk_lift, d_Desk_undo, d_law_cup, d_law_sip, d_law_sketch, d_law_near, d_law_clause, d_law_band, d_law_told, d_law_names, d_law_fault, d_law_broken, d_law_same, d_law_due_deed, d_law_become, d_law_put, d_law_do, d_law_did, d_law_shelf, d_law_drawn_claim, d_law_drawn_deed, d_law_right, d_law]
theorem m_is_integer : d_is_integer ∈ fnL := List.mem_of_getElem? (i := 0) rfl
theorem m_is_between : d_is_between ∈ fnL := List.mem_of_getElem? (i := 1) rfl
theorem m_is_name : d_is_name ∈ fnL := List.mem_of_getElem? (i := 2) rfl
theorem m_is_band : d_is_band ∈ fnL := List.mem_of_getElem? (i := 3) rfl
theorem m_check_band : d_check_band ∈ fnL := List.mem_of_getElem? (i := 4) rfl
theorem m_moves_of : d_moves_of ∈ fnL := List.mem_of_getElem? (i := 5) rfl
theorem m_bounds_of : d_bounds_of ∈ fnL := List.mem_of_getElem? (i := 6) rfl
theorem m_is_part : d_is_part ∈ fnL := List.mem_of_getElem? (i := 7) rfl
theorem m_Clause_init : d_Clause_init ∈ fnL := List.mem_of_getElem? (i := 8) rfl
theorem m_Clause_str : d_Clause_str ∈ fnL := List.mem_of_getElem? (i := 9) rfl
theorem m_check_clause : d_check_clause ∈ fnL := List.mem_of_getElem? (i := 10) rfl
theorem m_raise_of : d_raise_of ∈ fnL := List.mem_of_getElem? (i := 11) rfl
theorem m_behind : d_behind ∈ fnL := List.mem_of_getElem? (i := 12) rfl
theorem m_Web_init : d_Web_init ∈ fnL := List.mem_of_getElem? (i := 13) rfl
theorem m_Web_place_of : d_Web_place_of ∈ fnL := List.mem_of_getElem? (i := 14) rfl
theorem m_Web_course_to : d_Web_course_to ∈ fnL := List.mem_of_getElem? (i := 15) rfl
theorem m_Web_highest : d_Web_highest ∈ fnL := List.mem_of_getElem? (i := 16) rfl
theorem m_started : d_started ∈ fnL := List.mem_of_getElem? (i := 17) rfl
theorem m_one_on : d_one_on ∈ fnL := List.mem_of_getElem? (i := 18) rfl
theorem m_greater : d_greater ∈ fnL := List.mem_of_getElem? (i := 19) rfl
theorem m_highest_of : d_highest_of ∈ fnL := List.mem_of_getElem? (i := 20) rfl
theorem m_Race_init : d_Race_init ∈ fnL := List.mem_of_getElem? (i := 21) rfl
theorem m_Race_after : d_Race_after ∈ fnL := List.mem_of_getElem? (i := 22) rfl
theorem m_web_of : d_web_of ∈ fnL := List.mem_of_getElem? (i := 23) rfl
theorem m_checked : d_checked ∈ fnL := List.mem_of_getElem? (i := 24) rfl
theorem m_lead_in : d_lead_in ∈ fnL := List.mem_of_getElem? (i := 25) rfl
theorem m_lead : d_lead ∈ fnL := List.mem_of_getElem? (i := 26) rfl
theorem m_parting : d_parting ∈ fnL := List.mem_of_getElem? (i := 27) rfl
theorem m_Walk_init : d_Walk_init ∈ fnL := List.mem_of_getElem? (i := 28) rfl
theorem m_Walk_after : d_Walk_after ∈ fnL := List.mem_of_getElem? (i := 29) rfl
theorem m_web_alone : d_web_alone ∈ fnL := List.mem_of_getElem? (i := 30) rfl
theorem m_lowest : d_lowest ∈ fnL := List.mem_of_getElem? (i := 31) rfl
theorem m_names_of : d_names_of ∈ fnL := List.mem_of_getElem? (i := 32) rfl
theorem m_is_under : d_is_under ∈ fnL := List.mem_of_getElem? (i := 33) rfl
theorem m_is_claim : d_is_claim ∈ fnL := List.mem_of_getElem? (i := 34) rfl
theorem m_check_claim : d_check_claim ∈ fnL := List.mem_of_getElem? (i := 35) rfl
theorem m_fault_of : d_fault_of ∈ fnL := List.mem_of_getElem? (i := 36) rfl
theorem m_Desk_init : d_Desk_init ∈ fnL := List.mem_of_getElem? (i := 37) rfl
theorem m_Desk_len : d_Desk_len ∈ fnL := List.mem_of_getElem? (i := 38) rfl
theorem m_Desk_bool : d_Desk_bool ∈ fnL := List.mem_of_getElem? (i := 39) rfl
theorem m_Desk_contains : d_Desk_contains ∈ fnL := List.mem_of_getElem? (i := 40) rfl
theorem m_Desk_getitem : d_Desk_getitem ∈ fnL := List.mem_of_getElem? (i := 41) rfl
theorem m_Desk_setitem : d_Desk_setitem ∈ fnL := List.mem_of_getElem? (i := 42) rfl
theorem m_Desk_become : d_Desk_become ∈ fnL := List.mem_of_getElem? (i := 43) rfl
theorem m_Desk_remove : d_Desk_remove ∈ fnL := List.mem_of_getElem? (i := 44) rfl
theorem m_Desk_claim : d_Desk_claim ∈ fnL := List.mem_of_getElem? (i := 45) rfl
theorem m_Desk_lift : d_Desk_lift ∈ fnL := List.mem_of_getElem? (i := 46) rfl
theorem m_Desk_undo : d_Desk_undo ∈ fnL := List.mem_of_getElem? (i := 47) rfl
theorem m_law_cup : d_law_cup ∈ fnL := List.mem_of_getElem? (i := 48) rfl
theorem m_law_sip : d_law_sip ∈ fnL := List.mem_of_getElem? (i := 49) rfl
theorem m_law_sketch : d_law_sketch ∈ fnL := List.mem_of_getElem? (i := 50) rfl
theorem m_law_near : d_law_near ∈ fnL := List.mem_of_getElem? (i := 51) rfl
theorem m_law_clause : d_law_clause ∈ fnL := List.mem_of_getElem? (i := 52) rfl
theorem m_law_band : d_law_band ∈ fnL := List.mem_of_getElem? (i := 53) rfl
theorem m_law_told : d_law_told ∈ fnL := List.mem_of_getElem? (i := 54) rfl
theorem m_law_names : d_law_names ∈ fnL := List.mem_of_getElem? (i := 55) rfl
theorem m_law_fault : d_law_fault ∈ fnL := List.mem_of_getElem? (i := 56) rfl
theorem m_law_broken : d_law_broken ∈ fnL := List.mem_of_getElem? (i := 57) rfl
theorem m_law_same : d_law_same ∈ fnL := List.mem_of_getElem? (i := 58) rfl
theorem m_law_due_deed : d_law_due_deed ∈ fnL := List.mem_of_getElem? (i := 59) rfl
theorem m_law_become : d_law_become ∈ fnL := List.mem_of_getElem? (i := 60) rfl
theorem m_law_put : d_law_put ∈ fnL := List.mem_of_getElem? (i := 61) rfl
theorem m_law_do : d_law_do ∈ fnL := List.mem_of_getElem? (i := 62) rfl
theorem m_law_did : d_law_did ∈ fnL := List.mem_of_getElem? (i := 63) rfl
theorem m_law_shelf : d_law_shelf ∈ fnL := List.mem_of_getElem? (i := 64) rfl
theorem m_law_drawn_claim : d_law_drawn_claim ∈ fnL := List.mem_of_getElem? (i := 65) rfl
theorem m_law_drawn_deed : d_law_drawn_deed ∈ fnL := List.mem_of_getElem? (i := 66) rfl
theorem m_law_right : d_law_right ∈ fnL := List.mem_of_getElem? (i := 67) rfl
theorem m_law : d_law ∈ fnL := List.mem_of_getElem? (i := 68) rfl
structure Dg where
  cls : Str
  name : Str
  qual : Str
  st : Stmt
def g_Clause_every : Dg := ⟨"Clause", "every", "Clause.every", s_Clause_every⟩
def g_Clause_first : Dg := ⟨"Clause", "first", "Clause.first", s_Clause_first⟩
def g_Clause_rate : Dg := ⟨"Clause", "rate", "Clause.rate", s_Clause_rate⟩
def g_Clause_floor : Dg := ⟨"Clause", "floor", "Clause.floor", s_Clause_floor⟩
def g_Clause_ceiling : Dg := ⟨"Clause", "ceiling", "Clause.ceiling", s_Clause_ceiling⟩
def g_Clause_keep : Dg := ⟨"Clause", "keep", "Clause.keep", s_Clause_keep⟩
def g_Clause_plus : Dg := ⟨"Clause", "plus", "Clause.plus", s_Clause_plus⟩
def g_Clause_begun : Dg := ⟨"Clause", "begun", "Clause.begun", s_Clause_begun⟩
def g_Desk_band : Dg := ⟨"Desk", "band", "Desk.band", s_Desk_band⟩
def g_Desk_table : Dg := ⟨"Desk", "table", "Desk.table", s_Desk_table⟩
def g_Desk_names : Dg := ⟨"Desk", "names", "Desk.names", s_Desk_names⟩
def g_Desk_claims : Dg := ⟨"Desk", "claims", "Desk.claims", s_Desk_claims⟩
def g_Desk_changes : Dg := ⟨"Desk", "changes", "Desk.changes", s_Desk_changes⟩
def gtL : List Dg := [g_Clause_every, g_Clause_first, g_Clause_rate, g_Clause_floor, g_Clause_ceiling, g_Clause_keep, g_Clause_plus, g_Clause_begun, g_Desk_band, g_Desk_table, g_Desk_names, g_Desk_claims, g_Desk_changes]
theorem mg_Clause_every : g_Clause_every ∈ gtL := List.mem_of_getElem? (i := 0) rfl
theorem mg_Clause_first : g_Clause_first ∈ gtL := List.mem_of_getElem? (i := 1) rfl
theorem mg_Clause_rate : g_Clause_rate ∈ gtL := List.mem_of_getElem? (i := 2) rfl
theorem mg_Clause_floor : g_Clause_floor ∈ gtL := List.mem_of_getElem? (i := 3) rfl
theorem mg_Clause_ceiling : g_Clause_ceiling ∈ gtL := List.mem_of_getElem? (i := 4) rfl
theorem mg_Clause_keep : g_Clause_keep ∈ gtL := List.mem_of_getElem? (i := 5) rfl
theorem mg_Clause_plus : g_Clause_plus ∈ gtL := List.mem_of_getElem? (i := 6) rfl
theorem mg_Clause_begun : g_Clause_begun ∈ gtL := List.mem_of_getElem? (i := 7) rfl
theorem mg_Desk_band : g_Desk_band ∈ gtL := List.mem_of_getElem? (i := 8) rfl
theorem mg_Desk_table : g_Desk_table ∈ gtL := List.mem_of_getElem? (i := 9) rfl
theorem mg_Desk_names : g_Desk_names ∈ gtL := List.mem_of_getElem? (i := 10) rfl
theorem mg_Desk_claims : g_Desk_claims ∈ gtL := List.mem_of_getElem? (i := 11) rfl
theorem mg_Desk_changes : g_Desk_changes ∈ gtL := List.mem_of_getElem? (i := 12) rfl
def frL : List Str := [("abs" : Str), ("all" : Str), ("bool" : Str), ("dict" : Str), ("divmod" : Str), ("enumerate" : Str), ("int" : Str), ("isinstance" : Str), ("len" : Str), ("list" : Str), ("max" : Str), ("min" : Str), ("range" : Str), ("repr" : Str), ("sorted" : Str), ("str" : Str), ("tuple" : Str), ("zip" : Str), ("super" : Str)]
def glL : List Str := [("Broken" : Str), ("Clause" : Str), ("Desk" : Str), ("InUse" : Str), ("InvalidBand" : Str), ("InvalidClaim" : Str), ("InvalidName" : Str), ("InvalidPart" : Str), ("InvalidPlace" : Str), ("NotAClause" : Str), ("NothingToUndo" : Str), ("Race" : Str), ("SIZES" : Str), ("TooMany" : Str), ("UnknownName" : Str), ("WORDS" : Str), ("Walk" : Str), ("Web" : Str), ("_law_band" : Str), ("_law_become" : Str), ("_law_broken" : Str), ("_law_clause" : Str), ("_law_cup" : Str), ("_law_did" : Str), ("_law_do" : Str), ("_law_drawn_claim" : Str), ("_law_drawn_deed" : Str), ("_law_due_deed" : Str), ("_law_fault" : Str), ("_law_names" : Str), ("_law_near" : Str), ("_law_put" : Str), ("_law_right" : Str), ("_law_same" : Str), ("_law_shelf" : Str), ("_law_sip" : Str), ("_law_sketch" : Str), ("_law_told" : Str), ("behind" : Str), ("bounds_of" : Str), ("check_band" : Str), ("check_claim" : Str), ("check_clause" : Str), ("checked" : Str), ("fault_of" : Str), ("greater" : Str), ("highest_of" : Str), ("is_band" : Str), ("is_between" : Str), ("is_claim" : Str), ("is_integer" : Str), ("is_name" : Str), ("is_part" : Str), ("is_under" : Str), ("lead" : Str), ("lead_in" : Str), ("lowest" : Str), ("moves_of" : Str), ("names_of" : Str), ("one_on" : Str), ("parting" : Str), ("raise_of" : Str), ("started" : Str), ("web_alone" : Str), ("web_of" : Str)]
def inL : List (Str × Int) := [("MOST_EVERY", 3), ("MOST_RATE", 5), ("MOST_BOUND", 20), ("MOST_KEEP", 6), ("MOST_PLUS", 9), ("MOST_BAND", 3), ("MOST_STANDINGS", 600)]
def stL : List (Str × Str) := [("LETTERS", "abcdefghijklmnopqrstuvwxyz")]
def clL : List Str := [("Clause" : Str), ("Web" : Str), ("Race" : Str), ("Walk" : Str), ("Desk" : Str)]
def meL : List (Str × Str) := [("Clause", "__init__"), ("Clause", "__str__"), ("Web", "__init__"), ("Web", "place_of"), ("Web", "course_to"), ("Web", "highest"), ("Race", "__init__"), ("Race", "after"), ("Walk", "__init__"), ("Walk", "after"), ("Desk", "__init__"), ("Desk", "__len__"), ("Desk", "__bool__"), ("Desk", "__contains__"), ("Desk", "__getitem__"), ("Desk", "__setitem__"), ("Desk", "become"), ("Desk", "remove"), ("Desk", "claim"), ("Desk", "lift"), ("Desk", "undo")]
def naL : List (Str × Str) := [("Clause", "parts"), ("Web", "nodes"), ("Web", "places"), ("Web", "steps"), ("Web", "origins"), ("Race", "one"), ("Race", "other"), ("Walk", "rented"), ("Walk", "sign"), ("Desk", "span"), ("Desk", "state")]
end K56
namespace K56
open PySem PySem.Spec PyProof.Rows L2
abbrev ga (K : PySem.W.Frag) (x : Str) : Addr := He.ga K x
abbrev me (K : PySem.W.Frag) (c m : Str) : Addr := He.ma K (He.ga K c) m
def pgA (K : PySem.W.Frag) (c f : Str) : Addr := match PySem.W.recIn K (He.ma K (He.ga K c) f) "property" with
  | some (.ref g :: _) => g
  | _ => 0
/-- WORDS' items -/
def wordsL : List Str := [("every" : Str), ("from" : Str), ("rate" : Str), ("floor" : Str), ("ceiling" : Str), ("keep" : Str), ("plus" : Str)]
def raisedL : List Str := [("UnknownName" : Str), ("InUse" : Str), ("InvalidPlace" : Str), ("Broken" : Str), ("NothingToUndo" : Str)]
def caughtL : List Str := [("Broken" : Str), ("InvalidClaim" : Str), ("InvalidPlace" : Str), ("InvalidName" : Str), ("NotAClause" : Str), ("UnknownName" : Str), ("InUse" : Str), ("NothingToUndo" : Str)]
def fieldL : List (Str × Str) := [("UnknownName", "given"), ("InUse", "index"), ("InvalidPlace", "given"), ("Broken", "index"), ("Broken", "shown"), ("InvalidClaim", "given"), ("InvalidName", "given"), ("NotAClause", "given")]
/-- what the written part K and the module's names mg say -/
structure Tx (w : World) (K : PySem.W.Frag) (mg : Str → Option Value) : Prop where
  glo : ∀ x, glL.contains x = true → mg x = some (.ref (ga K x))
  free : ∀ x, frL.contains x = true → mg x = none
  int : ∀ x i, inL.contains (x, i) = true → ∃ t, mg x = some (.int i t)
  str : ∀ x y, stL.contains (x, y) = true → ∃ t, mg x = some (.str y t)
  fn : ∀ d ∈ fnL, ∃ fd, FunD K d.name d.qual d.params d.body d.scope (d.dvs K) (d.kws K) (He.fAd K d.at_) fd
  gt : ∀ g ∈ gtL, ∃ fd, FunD K g.name g.qual (defArgs g.st) (defBody g.st) (defScope g.st) [] [] (pgA K g.cls g.name) fd
  pr : ∀ g ∈ gtL, PropOf K (ga K g.cls) g.name (me K g.cls g.name) (pgA K g.cls g.name)
  cls : ∀ c, clL.contains c = true → Cls K (ga K c)
  noat : ∀ c f, naL.contains (c, f) = true → NoAttr K (ga K c) f
  meth : ∀ c m, meL.contains (c, m) = true → Meth K (ga K c) m (me K c m)
  mkr : ∀ c, clL.contains c = true → Mk K (ga K c) (me K c "__init__")
  isc : C8.InsC K (ga K "Clause")
  noseq : PySem.W.noSeq K (ga K "Desk") = true
  isC : ∀ c, clL.contains c = true → PySem.W.isClsIn K (ga K c) = true
  x1 : X1 PG K mg "UnknownName" (ga K "UnknownName") "given"
  x2 : X1 PG K mg "InUse" (ga K "InUse") "index"
  x3 : X1 PG K mg "InvalidPlace" (ga K "InvalidPlace") "given"
  x4 : X2 PG K mg "Broken" (ga K "Broken") "index" "shown"
  x5 : PySem.W.excIn K (ga K "NothingToUndo") [.type "ArithmeticError", .type "Exception", .type "BaseException", .type "object"] "ArithmeticError.__new__" = true
  x5k : PySem.W.keepIn K (.ref (ga K "NothingToUndo")) = true
  x5s : PySem.W.subIn K (.ref (ga K "NothingToUndo")) (.type "BaseException") = some true
  x5t : PySem.W.typeIn K (.ref (ga K "NothingToUndo")) = some (.type "type")
  exm : ∀ a b, raisedL.contains a = true → caughtL.contains b = true → PySem.W.exmOne K (.ref (ga K a)) (.ref (ga K b)) = some (decide (a = b))
  xf : ∀ a f, fieldL.contains (a, f) = true → XfC K (ga K a) ∧ PySem.W.findIn K (.ref (ga K a)) f = some none
  sizes : ∃ es n, KDict K w (ga K "SIZES") es n
  size4 : ∃ t, PySem.W.nsIn K (ga K "SIZES") "never above" = some (some (.int 4 t))
  size3 : ∃ t, PySem.W.nsIn K (ga K "SIZES") "alike" = some (some (.int 3 t))
  size2 : ∃ t, PySem.W.nsIn K (ga K "SIZES") "never below" = some (some (.int 3 t))
  words : ∃ o its n, K.lookup (ga K "WORDS") = some o ∧ o.cls = .type "tuple" ∧ o.data = .seq its n ∧ its.size ≤ sizeLine ∧ Vals (wordsL.map V.str) its.toList
section
variable {w : World} {K : PySem.W.Frag} {mg : Str → Option Value} (T : Tx w K mg)
include T
theorem Tx.g (x : Str) (h : glL.contains x = true := by decide +kernel) : mg x = some (.ref (ga K x)) := T.glo x h
theorem Tx.f (x : Str) (h : frL.contains x = true := by decide +kernel) : mg x = none := T.free x h
theorem Tx.kp (d : He.DefD) (h : d ∈ fnL) : PySem.W.keepIn K (.ref (He.fAd K d.at_)) = true := by
  obtain ⟨fd, F⟩ := T.fn d h
  exact F.kp
end
end K56
namespace K56
open PySem PySem.Spec PyProof.Rows L2
section
variable {X : Cx} {pos : Pos}
/-- names of the module's top, by what the facts tell -/
theorem pe_tyN (n : String) {x : Str} (T : Tx X.w X.K X.mg) (hx : x = Str.ofString n := by rfl) (h : frL.contains x = true := by decide +kernel) (hg : Gl X x := by rfl) (hv : bootBuiltins x = some (.type n) := by decide +kernel) (hn : x ≠ "__name__" := by decide) (hd : (x == ("__debug__" : Str)) = false := by decide) : PE X (.Name x pos) (tC (.ty n)) :=
  pe_bltn hg (T.free x h) hv rfl hn hd
theorem pe_gI {x : Str} (T : Tx X.w X.K X.mg) (y : Str) (i : Int) (hx : y = x := by rfl) (h : inL.contains (x, i) = true := by decide +kernel) (hg : Gl X x := by rfl) (hd : (x == ("__debug__" : Str)) = false := by decide) : PE X (.Name x pos) (tC (.int i)) := by
  obtain ⟨t, e⟩ := T.int x i h
  exact pe_glob hg e ⟨t, rfl⟩ hd
theorem pe_gS {x : Str} (T : Tx X.w X.K X.mg) (y : Str) (z : Str) (hx : y = x := by rfl) (h : stL.contains (x, z) = true := by decide +kernel) (hg : Gl X x := by rfl) (hd : (x == ("__debug__" : Str)) = false := by decide) : PE X (.Name x pos) (tC (.str z)) := by
  obtain ⟨t, e⟩ := T.str x z h
  exact pe_glob hg e ⟨t, rfl⟩ hd
theorem pe_gR {x : Str} (y : Str) (T : Tx X.w X.K X.mg) (hx : y = x := by rfl) (h : glL.contains x = true := by decide +kernel) (hg : Gl X x := by rfl) (hd : (x == ("__debug__" : Str)) = false := by decide) : PE X (.Name x pos) (tC (.ref (ga X.K x))) :=
  pe_glob hg (T.glo x h) rfl hd
/-- d[k], d a dict of nested keys -/
theorem pe_ixND {a b : Expr} {ta tb : TE} (hu : X.A.units + 9 < cLine) (ha : PE X a ta) (hb : PE X b tb) (hs : NoSl b := by intro _ _; rfl) : PE X (.Subscript a b pos) (tOp (rGetND X.prog X.w) ta tb) := by
  refine ⟨fun pins s σ H Q I h => ?_⟩
  refine subD_of PySem.F.slot_dict_getitem.lookup hs (thn (ha.run pins s σ H _ I h) fun u s1 ⟨x, H1, I1, rx, q1⟩ => thn (hb.run pins s1 σ H1 _ I1 q1) fun iv s2 ⟨y, H2, I2, ry, q2⟩ => ?_)
  obtain ⟨a', d, xs, k, i, ex, ey, e, K, nk, hk, hi, q⟩ := id q2
  subst ex
  obtain rfl : u = Value.ref d := rx
  obtain ⟨hd, ys, D, hp⟩ := nd_at I2 e K
  exact ⟨D.typeIs, ix_nd hu pins s2 σ H2 (.ref d) y _ _ Q I2 rfl ry q2⟩
/-- o[i], o of an own class -/
theorem pe_ixown {k : Nat} {C g : Addr} {sp : Sp} {a b : Expr} {ta tb : TE} (M : Spm X.K C "__getitem__" g) (hfn : PySem.W.fnIn X.K g = true) (F : Fn X.prog X.w X.K X.mg X.base k g sp) (hr : Room (k + 1) X.A) (ha : PE X a ta) (hb : PE X b tb)
    (hs : ∀ o i, subscripted b true o i = runValue (.builtin "lifetime.subscript" ⟨[o, i], []⟩) := by intro _ _; with_unfolding_all rfl) : PE X (.Subscript a b pos) (tOp (rGetO C sp) ta tb) := by
  refine ⟨fun pins s σ H Q I h => ?_⟩
  refine Subscript_ (binT ha hb I h fun v u s2 x y H2 I2 rx ry q => ?_)
  obtain ⟨a', dx, fs, rfl, ea, q⟩ := q
  cases rx
  obtain ⟨od, J⟩ := inst_of I2 ea
  obtain ⟨m, fr⟩ := I2.fr
  refine PySem.W.sub_K fr I2.ok.mod.kin J M.at_ hfn M.fn ?_ (hs _ _)
  exact wpAny_call (SlX.run_at (us := [.ref a', u]) (ws := [.ref a', y]) F hr.in1 I2.env0.in1 (E := E0) passL I2 (.cons rfl (.cons ry .nil)) q)
theorem fnIn_of {K : PySem.W.Frag} {x qual : Str} {pa : Arguments} {bd : List Stmt} {sc : Scope} {dvs : List V} {kws : List (Str × V)} {f : Addr} {fd : FuncData} (F : FunD K x qual pa bd sc dvs kws f fd) : PySem.W.fnIn K f = true := by
  obtain ⟨oc, od, dV, kV, doc, pm, an, cdv, ct, osl, rfl, lk, _⟩ := F.ex
  unfold PySem.W.fnIn
  rw [lk]
end
theorem spm_of {w : World} {K : PySem.W.Frag} {mg : Str → Option Value} (T : Tx w K mg) (c m : Str) (h : meL.contains (c, m) = true := by decide +kernel) : Spm K (ga K c) m (me K c m) :=
  let M := T.meth c m h
  ⟨M.at_, M.fn⟩
/-! ### what stands where -/
def ov : Option Int → V
  | none => .non
  | some i => .int i
def ptV (p : Pt) : List V := [.int p.every, .int p.first, .int p.rate, ov p.low, ov p.top, .int p.keep, .int p.plus]
/-- the clause p, an instance at c -/
def ClAt (K : PySem.W.Frag) (H : Hp) (c : Addr) (p : Pt) : Prop := ∃ dx t, H c = some (.ins (ga K "Clause") dx [("parts", .ref t)]) ∧ H t = some (.tup (ptV p))
def sdV (s : Sd) : List V := [.int s.1, .int s.2.1, .int s.2.2]
abbrev StAt (H : Hp) (a : Addr) (s : Sd) : Prop := H a = some (.tup (sdV s))
abbrev BdAt (H : Hp) (a : Addr) (lo hi : Int) : Prop := H a = some (.tup [.int lo, .int hi])
theorem ClAt.mono {K : PySem.W.Frag} {H H' : Hp} (e : Same H H') {c : Addr} {p : Pt} (h : ClAt K H c p) : ClAt K H' c p := by
  obtain ⟨dx, t, h1, h2⟩ := h
  exact ⟨dx, t, e _ _ h1, e _ _ h2⟩
theorem same_new {H : Hp} {p : Addr} {o : HO} (h : H p = none) : Same H (upd H p o) := fun b u e => by rw [upd_ne (ne_of_none e h)]; exact e
theorem upd_old {H : Hp} {p r : Addr} {o u : HO} (e : H p = some o) (h : H r = none) : upd H r u p = some o := by rw [upd_ne (ne_of_none e h)]; exact e
theorem Same.new {H H1 : Hp} {p : Addr} {o : HO} (s : Same H H1) (h : H1 p = none) : Same H (upd H1 p o) := s.trans (same_new h)
theorem ite_t {c : Bool} {A B : Prop} (hc : c = true) (h : A) : if c = true then A else B := by rw [if_pos hc]; exact h
theorem ite_f {c : Bool} {A B : Prop} (hc : c = false) (h : B) : if c = true then A else B := by rw [hc, if_neg Bool.false_ne_true]; exact h
end K56
namespace K56
open PySem PySem.Spec PyProof.Rows L2
theorem hu_le {k c : Nat} {A : Around} (hr : Room k A) (h : c ≤ 200 := by decide) : A.units + c < cLine := by
  have := hr.un
  omega
end K56
namespace K56
open PySem PySem.Spec PyProof.Rows L2
theorem ite_d {p : Prop} [Decidable p] {A B : Prop} (h1 : p → A) (h2 : ¬ p → B) : if decide p = true then A else B := by
  by_cases h : p
  · rw [if_pos (decide_eq_true h)]; exact h1 h
  · rw [if_neg (by simpa using h)]; exact h2 h
theorem ite_dt {p : Prop} [Decidable p] {A B : Prop} (h : p) (a : A) : if decide p = true then A else B := ite_t (decide_eq_true h) a
theorem ite_df {p : Prop} [Decidable p] {A B : Prop} (h : ¬ p) (b : B) : if decide p = true then A else B := ite_f (decide_eq_false h) b
section
variable {X : Cx}
theorem call_isiI : CallR X (.builtin "isinstance") (fun xs H Q => ∃ i : Int, xs = [.int i, .ty "int"] ∧ Q (.bl true) H) := fun pins s σ H xs us Q I r ⟨i, e, q⟩ =>
  call_isi pins s σ H xs us Q I r ⟨_, _, _, _, _, e, .ty _, .base (.int i), kit_ty (r := true) (by decide +kernel), q⟩
theorem call_isiB : CallR X (.builtin "isinstance") (fun xs H Q => ∃ i : Int, xs = [.int i, .ty "bool"] ∧ Q (.bl false) H) := fun pins s σ H xs us Q I r ⟨i, e, q⟩ =>
  call_isi pins s σ H xs us Q I r ⟨_, _, _, _, _, e, .ty _, .base (.int i), kit_ty (r := false) (by decide +kernel), q⟩
theorem call_isiS : CallR X (.builtin "isinstance") (fun xs H Q => ∃ i : Str, xs = [.str i, .ty "str"] ∧ Q (.bl true) H) := fun pins s σ H xs us Q I r ⟨i, e, q⟩ =>
  call_isi pins s σ H xs us Q I r ⟨_, _, _, _, _, e, .ty _, .base (.str i), kit_ty (r := true) (by decide +kernel), q⟩
theorem call_isiTu : CallR X (.builtin "isinstance") (fun xs H Q => ∃ a : Addr, xs = [.ref a, .ty "tuple"] ∧ ∃ ys, H a = some (.tup ys) ∧ Q (.bl true) H) := fun pins s σ H xs us Q I r ⟨a, e, ys, h, q⟩ =>
  call_isi pins s σ H xs us Q I r ⟨_, _, _, _, _, e, .ty _, .base (.tup h), kit_ty (r := true) (by decide +kernel), q⟩
end
end K56
namespace K56
open PySem PySem.Spec PyProof.Rows L2
/-! ### the head's facts, each a Bool of what is looked at -/
abbrev FnY : Type := Option (Str × Str × Arguments × FuncBody × Scope × Addr × List Str × Addr)
def fnY (K : PySem.W.Frag) (a : Addr) : FnY := match K.lookup a with
  | some ⟨_, _, .func fd, _⟩ => some (fd.name, fd.qualname, fd.params, fd.body, fd.scope, fd.globals, fd.closure.map (·.1), fd.builtins)
  | _ => none
/-- a function that is no name's value: a property's getter, an exception's __init__ -/
structure Yd where
  at_ : PySem.W.Frag → Addr
  name : Str
  qual : Str
  st : Stmt
  clo : List Str
def Yd.val (y : Yd) : FnY := some (y.name, y.qual, defArgs y.st, .stmts (defBody y.st), defScope y.st, mainGlobals, y.clo, builtinsNs)
structure Xd where
  cls : Str
  qual : Str
  st : Stmt
  fs : List Str
  B : String
  newId : String
  initId : String
  bm : List Value
def bmOf (B : String) : List Value := [.type B, .type "Exception", .type "BaseException", .type "object"]
def xd1 : Xd := ⟨"UnknownName", "UnknownName.__init__", mem 11 0, ["given"], "LookupError", "LookupError.__new__", "LookupError.__init__", bmOf "LookupError"⟩
def xd2 : Xd := ⟨"InUse", "InUse.__init__", mem 12 0, ["index"], "LookupError", "LookupError.__new__", "LookupError.__init__", bmOf "LookupError"⟩
def xd3 : Xd := ⟨"InvalidPlace", "InvalidPlace.__init__", mem 8 0, ["given"], "ValueError", "ValueError.__new__", "ValueError.__init__", bmOf "ValueError"⟩
def xd4 : Xd := ⟨"Broken", "Broken.__init__", mem 16 0, ["index", "shown"], "ArithmeticError", "ArithmeticError.__new__", "ArithmeticError.__init__", bmOf "ArithmeticError"⟩
def xdL : List Xd := [xd1, xd2, xd3, xd4]
def ydL : List Yd := gtL.map (fun g => ⟨fun K => pgA K g.cls g.name, g.name, g.qual, g.st, []⟩) ++ xdL.map fun d => ⟨fun K => me K d.cls "__init__", "__init__", d.qual, d.st, ["__class__"]⟩
def codeB (K : PySem.W.Frag) (a : Addr) (q : Str) : Bool := match K.lookup a with
  | some ⟨_, _, .func fd, _⟩ => PySem.W.codeIn K fd.code q
  | _ => false
def noDfl (K : PySem.W.Frag) (a : Addr) : Bool := match K.lookup a with
  | some ⟨_, _, .func fd, _⟩ => (match fd.defaults with
    | .none => true
    | _ => false)
  | _ => false
def gB (K : PySem.W.Frag) (g : Dg) : Bool := PySem.W.keepIn K (.ref (pgA K g.cls g.name)) && (codeB K (pgA K g.cls g.name) g.qual && (noDfl K (pgA K g.cls g.name) && (He.eqO (PySem.W.findIn K (.ref (ga K g.cls)) g.name) (some (some (.ref (me K g.cls g.name)))) &&
  (He.eqO (PySem.W.specialIn K (.ref (me K g.cls g.name)) "__get__") (some (some (.builtin "property.__get__"))) && (decide (PySem.W.takesIn K (.ref (me K g.cls g.name)) = some true) && (match PySem.W.recIn K (me K g.cls g.name) "property" with
    | some (.ref g' :: _) => decide (g' = pgA K g.cls g.name)
    | _ => false))))))
def ccOf (K : PySem.W.Frag) (a : Addr) : Addr := match K.lookup a with
  | some ⟨_, _, .func fd, _⟩ => (match fd.closure with
    | [(_, c)] => c
    | _ => 0)
  | _ => 0
def cdOf (K : PySem.W.Frag) (a : Addr) : Addr := match K.lookup a with
  | some ⟨_, _, .func fd, _⟩ => (match fd.code with
    | .ref c => c
    | _ => 0)
  | _ => 0
def cellB (K : PySem.W.Frag) (cc C : Addr) : Bool := match K.lookup cc with
  | some ⟨_, _, .cell (some (.ref D)), _⟩ => decide (D = C)
  | _ => false
def fileB (K : PySem.W.Frag) (cd : Addr) : Bool := match K.lookup cd with
  | some ⟨_, _, .fields vs, _⟩ => (match (vs[2]? : Option Value) with
    | some (.str p _) => decide (p = PG.main.file)
    | _ => false)
  | _ => false
def xB (K : PySem.W.Frag) (d : Xd) : Bool := PySem.W.excInitIn K (ga K d.cls) d.bm d.newId && (PySem.W.excOver K (ga K d.cls) d.bm && ((PySem.W.clsIn K (ga K d.cls)).any (·.hasDict) && (He.eqO (PySem.W.findIn K (.ref (ga K d.cls)) "__setattr__") (some (some (.builtin "object.__setattr__"))) &&
  (He.eqO (PySem.W.findIn K (.ref (ga K d.cls)) "__getattribute__") (some (some (.builtin "BaseException.__getattribute__"))) && (He.eqO (PySem.W.findIn K (.ref (ga K d.cls)) "__getattr__") (some none) && ((d.fs.all fun f => He.eqO (PySem.W.findIn K (.ref (ga K d.cls)) f) (some none)) &&
  (He.eqO (PySem.W.findIn K (.ref (ga K d.cls)) "__init__") (some (some (.ref (me K d.cls "__init__")))) && (PySem.W.isFn K (.ref (me K d.cls "__init__")) && (PySem.W.keepIn K (.ref (ga K d.cls)) && (decide (PySem.W.subIn K (.ref (ga K d.cls)) (.type "BaseException") = some true) &&
  (decide (PySem.W.typeIn K (.ref (ga K d.cls)) = some (.type "type")) && (PySem.W.hasDictIn K (ga K d.cls) && (He.eqO (PySem.W.ks_superIn K (ga K d.cls) (ga K d.cls) "__init__") (some (some (.builtin d.initId))) && (decide (PySem.W.subIn K (.ref (ga K d.cls)) (.type d.B) = some true) &&
  (decide (PySem.W.mroIn K (ga K d.cls) (.ref (ga K d.cls)) = some true) && (He.eqO (PySem.W.nsIn K cStatics "thirdparty.any") (some none) && (cellB K (ccOf K (me K d.cls "__init__")) (ga K d.cls) && (fileB K (cdOf K (me K d.cls "__init__")) && (noDfl K (me K d.cls "__init__") && codeB K (me K d.cls "__init__") d.qual)))))))))))))))))))
def isB (K : PySem.W.Frag) (C : Addr) : Bool := He.eqO (PySem.W.findIn K (.ref C) "__class__") (some (some (.builtin "object.__class__"))) && (He.eqO (PySem.W.specialIn K (.builtin "object.__class__") "__get__") (some (some (.builtin "getset_descriptor.__get__"))) &&
  (decide (PySem.W.takesIn K (.builtin "object.__class__") = some true) && (decide (PySem.W.mroIn K C (.type "object") = some true) && decide (PySem.W.kitOne K (.ref C) (.ref C) = some true))))
def x5B (K : PySem.W.Frag) (C : Addr) : Bool := PySem.W.excIn K C [.type "ArithmeticError", .type "Exception", .type "BaseException", .type "object"] "ArithmeticError.__new__" && (PySem.W.keepIn K (.ref C) && (decide (PySem.W.subIn K (.ref C) (.type "BaseException") = some true) && decide (PySem.W.typeIn K (.ref C) = some (.type "type"))))
def wordsB (K : PySem.W.Frag) : Bool := match K.lookup (ga K "WORDS") with
  | some ⟨.type c, _, .seq its _, _⟩ => decide (c = "tuple") && (decide (its.size ≤ sizeLine) && He.relAll (wordsL.map V.str) its.toList)
  | _ => false
def sizesL : List (Str × He.Dv) := [("never above", .int 4), ("alike", .int 3), ("never below", .int 3)]
def exB (K : PySem.W.Frag) : Bool := gtL.all (gB K) && (xdL.all (xB K) && (isB K (ga K "Clause") && (PySem.W.noSeq K (ga K "Desk") && (clL.all (fun c => PySem.W.isClsIn K (ga K c)) && (x5B K (ga K "NothingToUndo") &&
  (fieldL.all (fun p => xfB K (ga K p.1) && He.eqO (PySem.W.findIn K (.ref (ga K p.1)) p.2) (some none)) && (He.valsB K (ga K "SIZES") sizesL && wordsB K)))))))
def faL : List He.Fa := (glL ++ [("law" : Str)]).map .glo ++ (frL.map .free ++ (inL.map (fun p => .int p.1 p.2) ++ (stL.map (fun p => .str p.1 p.2) ++ (clL.map .cls ++ (naL.map (fun p => .noat p.1 p.2) ++ (meL.map (fun p => .meth p.1 p.2) ++ (clL.map .mkr ++ raisedL.flatMap fun a => caughtL.map fun b => .exm a b (decide (a = b)))))))))
def tsL : List He.Tab := [((fun K => ga K "SIZES"), ["never above", "alike", "never below"])]
def tfL : List He.Defn := [d_law_did.at_]
end K56
namespace K56
open PySem PySem.Spec PyProof.Rows L2
/-! ### the Hook: the objects that the facts lean on, by their places -/
def as0 : List Addr := [2, 3, 31, 116, 137, 158, 179, 191, 213, 234, 246, 280, 301, 310, 317, 322, 329, 336, 343, 344, 351, 358, 486, 497, 504, 511, 563, 572, 577, 584]
def as1 : List Addr := [589, 613, 624, 631, 638, 645, 652, 676, 687, 694, 695, 702, 709, 716, 723, 730, 876, 887, 894, 901, 908, 915, 922, 929, 936, 943, 950, 955, 960, 965]
def as2 : List Addr := [972, 979, 986, 991, 998, 1005, 1012, 1017, 30, 115, 136, 157, 178, 190, 212, 233, 245, 279, 300, 309, 316, 321, 328, 335, 342, 350, 357, 485, 496, 503]
def as3 : List Addr := [510, 562, 571, 576, 583, 588, 612, 623, 630, 637, 644, 651, 675, 686, 693, 701, 708, 715, 722, 729, 875, 886, 893, 900, 907, 914, 921, 928, 935, 942]
def as4 : List Addr := [949, 954, 959, 964, 971, 978, 985, 990, 997, 1004, 1011, 1016, 155, 210, 231, 298, 383, 401, 409, 417, 425, 433, 441, 449, 457, 476, 525, 532, 539, 546]
def as5 : List Addr := [603, 610, 666, 673, 744, 752, 760, 768, 776, 784, 791, 798, 812, 819, 826, 833, 838, 845, 852, 859, 154, 143, 209, 198, 230, 219, 297, 286, 382, 376]
def as6 : List Addr := [400, 408, 416, 424, 432, 440, 448, 456, 475, 524, 531, 538, 545, 602, 609, 665, 672, 743, 751, 759, 767, 775, 783, 790, 797, 811, 818, 825, 832, 837]
def as7 : List Addr := [844, 851, 858, 399, 407, 415, 423, 431, 439, 447, 455, 750, 758, 766, 774, 782]
def asL : List Addr := as0 ++ (as1 ++ (as2 ++ (as3 ++ (as4 ++ (as5 ++ (as6 ++ (as7)))))))
def KOf (g : Addr → Option Obj) : PySem.W.Frag := He.frT g asL
abbrev AlY : Type := He.AlT × Bool × List FnY
def obsK (g : Addr → Option Obj) (K : PySem.W.Frag) : AlY := (He.obsT faL fnL tsL K, exB K && He.tabsB g tfL K, ydL.map fun y => fnY K (y.at_ K))
def obsY (g : Addr → Option Obj) : AlY := obsK g (KOf g)
def valY (w : World) : AlY := (He.valT fnL tsL w, true, ydL.map Yd.val)
structure SaysY (w : World) (h : Heap) (K : PySem.W.Frag) : Prop where
  t : He.SaysT faL fnL tsL w K
  more : exB K = true
  fy : ydL.map (fun y => fnY K (y.at_ K)) = ydL.map Yd.val
  hd : PySem.W.codeHdIn K (He.cT K d_law_did.at_).1 (He.cT K d_law_did.at_).2 = true
  out : K.lookup (He.cT K d_law_did.at_).2 = none
  empty : h.get? (He.cT K d_law_did.at_).2 = some { cls := .none, data := .fields #[] }
theorem saysY_of {w : World} {h : Heap} (e : obsY h.get? = valY w) : SaysY w h (KOf h.get?) := by
  have e1 : He.obsT faL fnL tsL (KOf h.get?) = He.valT fnL tsL w := congrArg (fun z : AlY => z.1) e
  have e2 : (exB (KOf h.get?) && He.tabsB h.get? tfL (KOf h.get?)) = true := congrArg (fun z : AlY => z.2.1) e
  have e3 : ydL.map (fun y => fnY (KOf h.get?) (y.at_ (KOf h.get?))) = ydL.map Yd.val := congrArg (fun z : AlY => z.2.2) e
  obtain ⟨h1, h2⟩ := He.ba e2
  have h3 := List.all_eq_true.mp h2 d_law_did.at_ (List.mem_singleton.mpr rfl)
  obtain ⟨h4, h5⟩ := He.ba h3
  cases q : h.get? (He.cT (KOf h.get?) d_law_did.at_).2 with
  | none =>
    rw [q] at h5
    cases h5
  | some o =>
    rw [q] at h5
    exact ⟨e1, h1, e3, h4, He.frT_none q h5, by rw [q, He.emptyTab_eq h5]⟩
def hookY : PySem.W.Hook where
  α := AlY
  obs := fun s => obsY s.heap.get?
  val := valY
  says := fun w h => ∃ K : PySem.W.Frag, K.In h ∧ SaysY w h K
  of := fun _ _ e => ⟨_, He.frT_in, saysY_of e⟩
  keeps := fun _ _ _ ⟨K, hK, c⟩ k => ⟨K, PySem.W.Frag.In.keeps hK k, ⟨c.t, c.more, c.fy, c.hd, c.out, k _ _ c.empty⟩⟩
def obY (s : PySem.W.SharedT) : AlY := obsY (HandSHeadRun.getT s)
theorem obY_eq (s : PySem.W.SharedT) : obY s = hookY.obs s.abs := by
  have e : HandSHeadRun.getT s = s.abs.heap.get? := funext (HandSHeadRun.getT_eq s)
  unfold obY
  rw [e]
  rfl
/-! ### the table of names, out of the facts -/
theorem fy_at {K : PySem.W.Frag} (e : ydL.map (fun y => fnY K (y.at_ K)) = ydL.map Yd.val) {y : Yd} (h : y ∈ ydL) : fnY K (y.at_ K) = y.val := by
  obtain ⟨i, hi, rfl⟩ := List.mem_iff_getElem.mp h
  have e2 : (ydL.map (fun y => fnY K (y.at_ K)))[i]? = (ydL.map Yd.val)[i]? := by rw [e]
  rw [List.getElem?_map, List.getElem?_map, List.getElem?_eq_getElem hi] at e2
  exact Option.some.inj e2
theorem fy_fn {K : PySem.W.Frag} {a : Addr} {n q : Str} {st : Stmt} {clo : List Str} (e : fnY K a = some (n, q, defArgs st, .stmts (defBody st), defScope st, mainGlobals, clo, builtinsNs)) (c : codeB K a q = true) :
    ∃ (oc : Value) (od : Option Addr) (osl : Array (Option Value)) (cl : List (Str × Addr)) (n8 n9 n10 n11 : Value) (n12 : Option Addr) (cd : Addr) (n14 : Value), cl.map (·.1) = clo ∧ PySem.W.codeIn K (.ref cd) q = true ∧
      K.lookup a = some ⟨oc, od, .func ⟨n, q, defArgs st, .stmts (defBody st), defScope st, mainGlobals, cl, n8, n9, n10, n11, n12, .ref cd, n14, builtinsNs⟩, osl⟩ := by
  unfold fnY at e
  unfold codeB at c
  cases k : K.lookup a with
  | none =>
    rw [k] at e
    cases e
  | some o =>
    obtain ⟨oc, od, dt, osl⟩ := o
    rw [k] at e c
    cases dt with
    | func fd =>
      obtain ⟨n1, n2, n3, n4, n5, n6, n7, n8, n9, n10, n11, n12, n13, n14, n15⟩ := fd
      have e2 : (some (n1, n2, n3, n4, n5, n6, n7.map (·.1), n15) : FnY) = some (n, q, defArgs st, .stmts (defBody st), defScope st, mainGlobals, clo, builtinsNs) := e
      simp only [Option.some.injEq, Prod.mk.injEq] at e2
      obtain ⟨h1, h2, h3, h4, h5, h6, h7, h8⟩ := e2
      subst h1 h2 h3 h4 h5 h6 h8
      have c2 : PySem.W.codeIn K n13 n2 = true := c
      obtain ⟨cd, rfl⟩ := He.codeIn_ref c2
      exact ⟨oc, od, osl, n7, n8, n9, n10, n11, n12, cd, n14, h7, c2, rfl⟩
    | _ => cases c
theorem get_ok {K : PySem.W.Frag} {g : Dg} (e : fnY K (pgA K g.cls g.name) = some (g.name, g.qual, defArgs g.st, .stmts (defBody g.st), defScope g.st, mainGlobals, [], builtinsNs)) (c : gB K g = true) :
    (∃ fd, FunD K g.name g.qual (defArgs g.st) (defBody g.st) (defScope g.st) [] [] (pgA K g.cls g.name) fd) ∧ PropOf K (ga K g.cls) g.name (me K g.cls g.name) (pgA K g.cls g.name) := by
  obtain ⟨c1, c⟩ := He.ba c
  obtain ⟨c2, c⟩ := He.ba c
  obtain ⟨c3, c⟩ := He.ba c
  obtain ⟨c4, c⟩ := He.ba c
  obtain ⟨c5, c⟩ := He.ba c
  obtain ⟨c6, c7⟩ := He.ba c
  obtain ⟨oc, od, osl, cl, n8, n9, n10, n11, n12, cd, n14, hcl, hcode, hk⟩ := fy_fn e c2
  obtain rfl : cl = [] := List.map_eq_nil_iff.mp hcl
  unfold noDfl at c3
  rw [hk] at c3
  have h8 : n8 = .none := by
    cases n8 with
    | none => rfl
    | _ => cases c3
  subst h8
  refine ⟨⟨_, ⟨oc, od, .none, n9, n10, n11, n12, .ref cd, n14, osl, rfl, hk, hcode, .inl ⟨rfl, rfl⟩, .inl rfl⟩, c1⟩, ⟨He.eqO_ok c4, He.eqO_ok c5, of_decide_eq_true c6, ?_⟩⟩
  split at c7
  · rename_i g' r k
    rw [of_decide_eq_true c7] at k
    exact ⟨r, k⟩
  · cases c7
end K56
namespace K56
open PySem PySem.Spec PyProof.Rows L2
abbrev R : PySem.W.OpenRow := PySem.W.OpenLaw.row PySem.Challenge.rw_pointrents_k56_whole_desks_through_deeds
abbrev qv : Program := PySem.W.view R.prog [91]
def nm0 : List Str := [("_wall" : Str), ("NotRight" : Str), ("InvalidPart" : Str), ("InvalidText" : Str), ("InvalidBand" : Str), ("InvalidName" : Str), ("InvalidClaim" : Str), ("InvalidPlace" : Str), ("NotAClause" : Str), ("NotThere" : Str), ("UnknownName" : Str), ("InUse" : Str), ("CannotBe" : Str), ("TooMany" : Str), ("NothingToUndo" : Str), ("Broken" : Str), ("MOST_EVERY" : Str), ("MOST_RATE" : Str), ("MOST_BOUND" : Str), ("MOST_KEEP" : Str), ("MOST_PLUS" : Str), ("MOST_BAND" : Str), ("MOST_STANDINGS" : Str), ("LETTERS" : Str), ("is_integer" : Str), ("is_between" : Str), ("is_name" : Str), ("is_band" : Str), ("check_band" : Str), ("moves_of" : Str)]
def nm1 : List Str := [("WORDS" : Str), ("DIGITS" : Str), ("bounds_of" : Str), ("is_part" : Str), ("is_numeral" : Str), ("parts_of" : Str), ("Clause" : Str), ("check_clause" : Str), ("raise_of" : Str), ("behind" : Str), ("Web" : Str), ("started" : Str), ("one_on" : Str), ("greater" : Str), ("highest_of" : Str), ("Race" : Str), ("web_of" : Str), ("checked" : Str), ("lead_in" : Str), ("lead" : Str), ("parting" : Str), ("Walk" : Str), ("web_alone" : Str), ("lowest" : Str), ("SIZES" : Str), ("names_of" : Str), ("is_under" : Str), ("is_claim" : Str), ("check_claim" : Str), ("fault_of" : Str)]
def nm2 : List Str := [("Desk" : Str), ("_law_cup" : Str), ("_law_sip" : Str), ("_law_sketch" : Str), ("_law_near" : Str), ("_law_clause" : Str), ("_law_band" : Str), ("_law_told" : Str), ("_law_names" : Str), ("_law_fault" : Str), ("_law_broken" : Str), ("_law_same" : Str), ("_law_due_deed" : Str), ("_law_become" : Str), ("_law_put" : Str), ("_law_do" : Str), ("_law_did" : Str), ("_law_shelf" : Str), ("_law_drawn_claim" : Str), ("_law_drawn_deed" : Str), ("_law_right" : Str)]
def names : List Str := nm0 ++ (nm1 ++ (nm2))
end K56
namespace K56
open PySem PySem.Spec PyProof.Rows L2
set_option maxHeartbeats 0 in
theorem run_f (w : World) : HandSHeadRun.RunEq R qv hookY obY 8800 names (w.withFollow "special-get-raises" false) := by
  intro os
  kernel_rfl
end K56
namespace K56
open PySem PySem.Spec PyProof.Rows L2
set_option maxHeartbeats 0 in
theorem run_t (w : World) : HandSHeadRun.RunEq R qv hookY obY 8800 names (w.withFollow "special-get-raises" true) := by
  intro os
  kernel_rfl
end K56
namespace K56
/-! ### the desk in plain Lean: names are two, claims are three kinds -/
abbrev Nm := Bool
inductive Cm where
  | above (n m : Nm) (k : Int)
  | alike (n m : Nm)
  | below (n : Nm) (k : Int)
  deriving DecidableEq
def Cm.names : Cm → List Nm
  | .above n m _ => [n, m]
  | .alike n m => [n, m]
  | .below n _ => [n]
/-- the table: the name, where its clause stands, the clause -/
abbrev Tb := List (Nm × (Nat × Pt))
def getT (t : Tb) (n : Nm) : Option (Nat × Pt) := (t.find? fun p => decide (p.1 = n)).map (·.2)
def hasT (t : Tb) (n : Nm) : Bool := (getT t n).isSome
def putT (t : Tb) (n : Nm) (v : Nat × Pt) : Tb := if hasT t n = true then t.map (fun p => if p.1 = n then (p.1, v) else p) else t ++ [(n, v)]
def dropT (t : Tb) (n : Nm) : Tb := t.filter fun p => decide (p.1 ≠ n)
inductive Fd where
  | ld (o : Option Int)
  | co (l : List Int)
  deriving DecidableEq
def ldF (o : Option Int) (good : Int → Bool) : Option Fd := match o with
  | some i => if good i = true then none else some (.ld (some i))
  | none => some (.ld none)
def faultC (t : Tb) (ms : List Int) : Cm → Option Fd
  | .below n k => (getT t n).bind fun a => ldF (lowest a.2 ms) fun i => decide (-k ≤ i)
  | .alike n m => (getT t n).bind fun a => (getT t m).bind fun b => (parting a.2 b.2 ms).map .co
  | .above n m k => (getT t n).bind fun a => (getT t m).bind fun b => ldF (lead a.2 b.2 ms) fun i => decide (i ≤ k)
abbrev Cs := List (Nat × Cm)
structure Sta where
  tb : Tb
  cs : Cs
  past : List (Tb × Cs)
inductive Dd where
  | put (n : Nm) (a : Nat) (p : Pt)
  | claim (a : Nat) (c : Cm)
  | remove (n : Nm)
  | lift (i : Int)
  | undo
inductive Due where
  | broken (i : Nat) (f : Fd)
  | unknown (n : Nm)
  | inuse (i : Nat)
  | place (i : Int)
  | nothing
/-- the first of the claims from i on that the name breaks -/
def brk (t : Tb) (ms : List Int) (n : Nm) : Nat → List Cm → Option Due
  | _, [] => none
  | i, c :: r => if n ∈ c.names then (match faultC t ms c with | some f => some (.broken i f) | none => brk t ms n (i + 1) r) else brk t ms n (i + 1) r
def use (n : Nm) : Nat → List Cm → Option Nat
  | _, [] => none
  | i, c :: r => if n ∈ c.names then some i else use n (i + 1) r
def cms (cs : Cs) : List Cm := cs.map (·.2)
def due (ms : List Int) (s : Sta) : Dd → Option Due
  | .put n a p => brk (putT s.tb n (a, p)) ms n 0 (cms s.cs)
  | .claim _ c => match c.names.find? fun n => !hasT s.tb n with
    | some n => some (.unknown n)
    | none => (faultC s.tb ms c).map (.broken s.cs.length)
  | .remove n => if hasT s.tb n = true then (use n 0 (cms s.cs)).map .inuse else some (.unknown n)
  | .lift i => if 0 ≤ i ∧ i < s.cs.length then none else some (.place i)
  | .undo => if s.past = [] then some .nothing else none
def Sta.push (s : Sta) : List (Tb × Cs) := s.past ++ [(s.tb, s.cs)]
def become (s : Sta) : Dd → Sta
  | .put n a p => ⟨putT s.tb n (a, p), s.cs, s.push⟩
  | .claim a c => ⟨s.tb, s.cs ++ [(a, c)], s.push⟩
  | .remove n => ⟨dropT s.tb n, s.cs, s.push⟩
  | .lift i => ⟨s.tb, s.cs.take i.toNat ++ s.cs.drop (i.toNat + 1), s.push⟩
  | .undo => match s.past.getLast? with
    | some (t, c) => ⟨t, c, s.past.dropLast⟩
    | none => s
theorem getT_put_self (t : Tb) (n : Nm) (v : Nat × Pt) : getT (putT t n v) n = some v := by
  unfold putT hasT
  cases e : getT t n with
  | some u =>
    rw [if_pos (by rfl)]
    unfold getT at e ⊢
    rw [List.find?_map]
    cases e2 : t.find? fun p => decide (p.1 = n) with
    | none => rw [e2] at e; cases e
    | some q =>
      have h2 := List.find?_some e2
      simp only [decide_eq_true_eq] at h2
      have : ((fun p : Nm × (Nat × Pt) => decide (p.1 = n)) ∘ fun p => if p.1 = n then (p.1, v) else p) = fun p => decide (p.1 = n) := by
        funext p
        by_cases z : p.1 = n <;> simp [z]
      rw [this, e2]
      show some (if q.1 = n then (q.1, v) else q).2 = some v
      rw [if_pos h2]
  | none =>
    rw [if_neg (by simp)]
    unfold getT at e ⊢
    rw [List.find?_append]
    cases e2 : t.find? fun p => decide (p.1 = n) with
    | some q => rw [e2] at e; cases e
    | none => simp
theorem hasT_iff {t : Tb} {n : Nm} : hasT t n = true ↔ n ∈ t.map (·.1) := by
  unfold hasT getT
  rw [Option.isSome_map, List.find?_isSome, List.mem_map]
  exact ⟨fun ⟨x, h1, h2⟩ => ⟨x, h1, by simpa using h2⟩, fun ⟨x, h1, h2⟩ => ⟨x, h1, by simpa using h2⟩⟩
theorem put_names (t : Tb) (n : Nm) (v : Nat × Pt) : (putT t n v).map (·.1) = if hasT t n = true then t.map (·.1) else t.map (·.1) ++ [n] := by
  unfold putT
  split
  · rw [List.map_map]
    refine List.map_congr_left fun p _ => ?_
    simp only [Function.comp]
    split <;> rfl
  · simp
theorem put_has {t : Tb} {n m : Nm} {v : Nat × Pt} (h : hasT t m = true) : hasT (putT t n v) m = true := by
  rw [hasT_iff] at h ⊢
  rw [put_names]
  split
  · exact h
  · exact List.mem_append_left _ h
theorem mem_put {t : Tb} {n : Nm} {v : Nat × Pt} {p : Nm × (Nat × Pt)} (h : p ∈ putT t n v) : p ∈ t ∨ p.2 = v := by
  unfold putT at h
  split at h
  · rw [List.mem_map] at h
    obtain ⟨q, hq, e⟩ := h
    split at e
    · exact .inr (by rw [← e])
    · exact .inl (by rw [← e]; exact hq)
  · rcases List.mem_append.mp h with z | z
    · exact .inl z
    · rw [List.mem_singleton] at z
      exact .inr (by rw [z])
theorem mem_getT {t : Tb} {n : Nm} {v : Nat × Pt} (h : getT t n = some v) : (n, v) ∈ t := by
  unfold getT at h
  cases e : t.find? fun p => decide (p.1 = n) with
  | none => rw [e] at h; cases h
  | some q =>
    rw [e] at h
    have h1 := List.find?_some e
    have h2 := List.mem_of_find?_eq_some e
    simp only [decide_eq_true_eq] at h1
    have h3 : q.2 = v := Option.some.inj h
    rw [← h1, ← h3]
    exact h2
end K56
namespace K56
/-- the first of the spots that is broken -/
def brkL (t : Tb) (ms : List Int) (cs : Cs) : List Nat → Option Due
  | [] => none
  | i :: r => match cs[i]? with
    | some x => (match faultC t ms x.2 with | some f => some (.broken i f) | none => brkL t ms cs r)
    | none => brkL t ms cs r
def isSp (cs : Cs) (n : Nm) (k : Nat) : Bool := match cs[k]? with
  | some x => decide (n ∈ x.2.names)
  | none => false
def spots (cs : Cs) (n : Nm) : List Nat := (List.range cs.length).filter (isSp cs n)
theorem brkL_spots (t : Tb) (ms : List Int) (cs : Cs) (n : Nm) : ∀ (j i : Nat), i + j = cs.length → brkL t ms cs ((List.range' i j).filter (isSp cs n)) = brk t ms n i (cms (cs.drop i))
  | 0, i, h => by
    rw [List.drop_of_length_le (by omega)]
    rfl
  | j + 1, i, h => by
    have hi : i < cs.length := by omega
    have ih := brkL_spots t ms cs n j (i + 1) (by omega)
    rw [List.range'_succ, List.drop_eq_getElem_cons hi]
    have e : cs[i]? = some cs[i] := List.getElem?_eq_getElem hi
    show _ = brk t ms n i (cs[i].2 :: cms (cs.drop (i + 1)))
    unfold brk
    by_cases c : n ∈ cs[i].2.names
    · rw [List.filter_cons_of_pos (by unfold isSp; rw [e]; simpa using c), if_pos c]
      unfold brkL
      rw [e]
      show (match faultC t ms cs[i].2 with | some f => _ | none => _) = _
      rw [ih]
      all_goals (cases faultC t ms cs[i].2 <;> rfl)
    · rw [List.filter_cons_of_neg (by unfold isSp; rw [e]; simpa using c), if_neg c, ih]
theorem spots_brk (t : Tb) (ms : List Int) (cs : Cs) (n : Nm) : brkL t ms cs (spots cs n) = brk t ms n 0 (cms cs) := by
  have := brkL_spots t ms cs n cs.length 0 (by omega)
  unfold spots
  rw [List.range_eq_range']
  exact this
theorem use_spots (cs : Cs) (n : Nm) : ∀ (j i : Nat), i + j = cs.length → ((List.range' i j).filter (isSp cs n)).head? = use n i (cms (cs.drop i))
  | 0, i, h => by
    rw [List.drop_of_length_le (by omega)]
    rfl
  | j + 1, i, h => by
    have hi : i < cs.length := by omega
    have ih := use_spots cs n j (i + 1) (by omega)
    rw [List.range'_succ, List.drop_eq_getElem_cons hi]
    have e : cs[i]? = some cs[i] := List.getElem?_eq_getElem hi
    show _ = use n i (cs[i].2 :: cms (cs.drop (i + 1)))
    unfold use
    by_cases c : n ∈ cs[i].2.names
    · rw [List.filter_cons_of_pos (by unfold isSp; rw [e]; simpa using c), if_pos c]
      rfl
    · rw [List.filter_cons_of_neg (by unfold isSp; rw [e]; simpa using c), if_neg c, ih]
theorem spots_use (cs : Cs) (n : Nm) : (spots cs n).head? = use n 0 (cms cs) := by
  have := use_spots cs n cs.length 0 (by omega)
  unfold spots
  rw [List.range_eq_range']
  exact this
theorem spots_mem {cs : Cs} {n : Nm} {k : Nat} (h : k ∈ spots cs n) : ∃ x, cs[k]? = some x ∧ n ∈ x.2.names := by
  unfold spots at h
  obtain ⟨h1, h2⟩ := List.mem_filter.mp h
  unfold isSp at h2
  cases e : cs[k]? with
  | none => rw [e] at h2; cases h2
  | some x => rw [e] at h2; exact ⟨x, rfl, by simpa using h2⟩
end K56
namespace K56
/-! ### how great what is shown can be -/
def Fd.ok : Fd → Prop
  | .ld none => True
  | .ld (some i) => -100000 ≤ i ∧ i ≤ 100000
  | .co l => l.length ≤ 700 ∧ ∀ x ∈ l, -3 ≤ x ∧ x ≤ 3
section
variable {N : Type} [DecidableEq N]
theorem leadW_le {ms : List Int} {S : List N} {w : Wb N} (h : WOk ms S 84 w) (hl : w.steps.length ≤ 600) {i : Int} (e : leadW w = some i) : -100000 ≤ i ∧ i ≤ 100000 := by
  unfold leadW at e
  cases eb : highest w.steps with
  | none => rw [eb] at e; cases e
  | some b =>
    rw [eb] at e
    obtain rfl : maxL (intsOf b) = i := Option.some.inj e
    unfold highest at eb
    obtain ⟨h1, _, _⟩ := hi_le h.gains (by decide) _ (Le.started _) eb
    by_cases z : intsOf b = []
    · rw [z]; exact ⟨by decide, by decide⟩
    · have hm := maxL_mem z
      unfold intsOf at hm
      obtain ⟨o, ho, e2⟩ := List.mem_filterMap.mp hm
      have e3 : o = some (maxL (List.filterMap id b)) := e2
      rw [e3] at ho
      have := h1 _ ho
      unfold intsOf
      omega
theorem partW_le {lo hi : Int} {ms : List Int} (hm : ∀ m ∈ ms, -3 ≤ m ∧ m ≤ 3) {S : List N} {G : Int} {w : Wb N} (h : WOk ms S G w) (hl : w.steps.length ≤ 600) {l : List Int} (e : partW w = some l) : l.length ≤ 700 ∧ ∀ x ∈ l, -3 ≤ x ∧ x ≤ 3 := by
  unfold partW at e
  obtain ⟨q, hq, e⟩ := List.exists_of_findSome?_eq_some e
  unfold partF at e
  cases es : q.1.find? fun s => decide (s.2.1 ≠ 0) with
  | none => rw [es] at e; cases e
  | some s =>
    rw [es] at e
    obtain rfl := Option.some.inj e
    obtain ⟨i, hi, e2⟩ := List.mem_iff_getElem.mp hq
    rw [List.getElem_zipIdx] at e2
    rw [List.length_zipIdx] at hi
    subst e2
    have hs := List.mem_of_find?_eq_some es
    obtain ⟨_, _, _, hsm⟩ := h.st i w.steps[i] (List.getElem?_eq_getElem hi) s hs
    have hb := back_len w.orig (0 + i + 1) (0 + i)
    refine ⟨?_, fun x hx => ?_⟩
    · unfold course
      rw [List.length_append, List.length_reverse, List.length_singleton]
      show (back w.orig (0 + i + 1) (0 + i)).length + 1 ≤ 700
      omega
    · rcases List.mem_append.mp hx with z | z
      · unfold course at z
        rw [List.mem_reverse] at z
        refine hm _ (back_mem (ms := ms) (fun j a m ej => ?_) _ _ x z)
        by_cases hj : j = 0
        · subst hj; rw [h.o0] at ej; cases ej
        · have hjl : j < w.nodes.length := by
            have := (List.getElem?_eq_some_iff.mp ej).1
            rw [h.ol] at this
            exact this
          obtain ⟨a', m', e5, _, _, e6, _⟩ := h.org j (by omega) hjl
          rw [ej] at e5
          cases e5
          exact e6
      · rw [List.mem_singleton] at z
        rw [z]
        exact hm _ hsm
end
theorem web_le {N : Type} [DecidableEq N] {after : N → Int → N × Int} {ms : List Int} {S : List N} {G : Int} (gd : Good after ms S G) {x : N} (h : x ∈ S) : WOk ms S G (web after ms x) ∧ (web after ms x).steps.length ≤ 600 := by
  obtain ⟨h1, h2⟩ := web_ok gd h
  have := h1.small gd
  exact ⟨h1, by omega⟩
theorem lead_le {c d : Pt} (hc : Ok c) (hd : Ok d) {ms : List Int} (hb : Band ms) {i : Int} (e : lead c d ms = some i) : -100000 ≤ i ∧ i ≤ 100000 := by
  obtain ⟨h1, h2⟩ := web_le (race_good hc hd hb) (race_begun hc hd ms)
  exact leadW_le h1 h2 e
theorem lowest_le {c : Pt} (hc : Ok c) {ms : List Int} (hb : Band ms) {i : Int} (e : lowest c ms = some i) : -100000 ≤ i ∧ i ≤ 100000 := by
  obtain ⟨h1, h2⟩ := web_le (walk_good hc hb) (begun_in hc ms)
  unfold lowest at e
  cases ez : leadW (walkW c ms) with
  | none => rw [ez] at e; cases e
  | some v =>
    rw [ez] at e
    obtain rfl : -v = i := Option.some.inj e
    have := leadW_le h1 h2 ez
    omega
theorem parting_le {c d : Pt} (hc : Ok c) (hd : Ok d) {ms : List Int} (hb : Band ms) {l : List Int} (e : parting c d ms = some l) : l.length ≤ 700 ∧ ∀ x ∈ l, -3 ≤ x ∧ x ≤ 3 := by
  obtain ⟨h1, h2⟩ := web_le (race_good hc hd hb) (race_begun hc hd ms)
  exact partW_le (lo := 0) (hi := 0) hb.le h1 h2 e
def TbOk (t : Tb) : Prop := ∀ p ∈ t, Ok p.2.2
theorem getT_ok {t : Tb} (h : TbOk t) {n : Nm} {a : Nat × Pt} (e : getT t n = some a) : Ok a.2 := h _ (mem_getT e)
theorem ldF_ok {o : Option Int} {g : Int → Bool} {f : Fd} (h : ∀ i, o = some i → -100000 ≤ i ∧ i ≤ 100000) (e : ldF o g = some f) : f.ok := by
  cases o with
  | none => cases e; trivial
  | some i =>
    unfold ldF at e
    dsimp only at e
    split at e
    · cases e
    · cases e
      exact h i rfl
theorem faultC_ok {t : Tb} (ht : TbOk t) {ms : List Int} (hb : Band ms) {c : Cm} {f : Fd} (e : faultC t ms c = some f) : f.ok := by
  cases c with
  | below n k =>
    have e : ((getT t n).bind fun a => ldF (lowest a.2 ms) fun i => decide (-k ≤ i)) = some f := e
    cases e1 : getT t n with
    | none => rw [e1] at e; cases e
    | some a =>
      rw [e1] at e
      exact ldF_ok (fun i => lowest_le (getT_ok ht e1) hb) e
  | alike n m =>
    have e : ((getT t n).bind fun a => (getT t m).bind fun b => (parting a.2 b.2 ms).map .co) = some f := e
    cases e1 : getT t n with
    | none => rw [e1] at e; cases e
    | some a =>
      cases e2 : getT t m with
      | none => rw [e1, e2] at e; cases e
      | some b =>
        rw [e1, e2] at e
        cases e3 : parting a.2 b.2 ms with
        | none => rw [show (((some a).bind fun a => (some b).bind fun b => (parting a.2 b.2 ms).map Fd.co)) = (parting a.2 b.2 ms).map Fd.co from rfl, e3] at e; cases e
        | some l =>
          rw [show (((some a).bind fun a => (some b).bind fun b => (parting a.2 b.2 ms).map Fd.co)) = (parting a.2 b.2 ms).map Fd.co from rfl, e3] at e
          obtain rfl := Option.some.inj e
          exact parting_le (getT_ok ht e1) (getT_ok ht e2) hb e3
  | above n m k =>
    have e : ((getT t n).bind fun a => (getT t m).bind fun b => ldF (lead a.2 b.2 ms) fun i => decide (i ≤ k)) = some f := e
    cases e1 : getT t n with
    | none => rw [e1] at e; cases e
    | some a =>
      cases e2 : getT t m with
      | none => rw [e1, e2] at e; cases e
      | some b =>
        rw [e1, e2] at e
        exact ldF_ok (fun i => lead_le (getT_ok ht e1) (getT_ok ht e2) hb) e
/-! ### what holds of the desk's standings -/
structure Std (e : Tb × Cs) : Prop where
  nd : (e.1.map (·.1)).Nodup
  nm : ∀ c ∈ e.2, ∀ n ∈ c.2.names, hasT e.1 n = true
  cl : e.2.length ≤ 5
structure StOk (k : Nat) (st : Sta) : Prop where
  now : Std (st.tb, st.cs)
  was : ∀ e ∈ st.past, Std e
  len : st.past.length ≤ k
/-- a deed as the law draws them -/
def Dd.fits (st : Sta) : Dd → Prop
  | .claim _ _ => st.cs.length < 5
  | _ => True
theorem nd_put {t : Tb} (h : (t.map (·.1)).Nodup) (n : Nm) (v : Nat × Pt) : ((putT t n v).map (·.1)).Nodup := by
  rw [put_names]
  split
  · exact h
  · rename_i c
    rw [hasT_iff] at c
    rw [List.nodup_append]
    exact ⟨h, by simp, fun a ha b hb => by
      rw [List.mem_singleton] at hb
      rw [hb]
      exact fun e => c (e ▸ ha)⟩
theorem use_none {n : Nm} : ∀ {l : List Cm} {i : Nat}, use n i l = none → ∀ c ∈ l, n ∉ c.names
  | [], _, _, c, hc => by cases hc
  | d :: l, i, h, c, hc => by
    unfold use at h
    split at h
    · cases h
    · rename_i hd
      rcases List.mem_cons.mp hc with z | z
      · rw [z]; exact hd
      · exact use_none h c z
theorem has_drop {t : Tb} {n m : Nm} (h : hasT t m = true) (hn : m ≠ n) : hasT (dropT t n) m = true := by
  rw [hasT_iff] at h ⊢
  obtain ⟨p, hp, e⟩ := List.mem_map.mp h
  unfold dropT
  exact List.mem_map.mpr ⟨p, List.mem_filter.mpr ⟨hp, by simp [e, hn]⟩, e⟩
theorem Std.become {ms : List Int} {st : Sta} (h : Std (st.tb, st.cs)) {d : Dd} (hu : ∀ e ∈ st.past, Std e) (hd : due ms st d = none) (hf : d.fits st) : Std ((become st d).tb, (become st d).cs) := by
  cases d with
  | put n a p => exact ⟨nd_put h.nd n _, fun c hc m hm => put_has (h.nm c hc m hm), h.cl⟩
  | claim a c =>
    refine ⟨h.nd, fun x hx n hn => ?_, ?_⟩
    · rcases List.mem_append.mp hx with z | z
      · exact h.nm x z n hn
      · rw [List.mem_singleton] at z
        rw [z] at hn
        have e : (match c.names.find? fun n => !hasT st.tb n with
          | some n => some (Due.unknown n)
          | none => (faultC st.tb ms c).map (.broken st.cs.length)) = none := hd
        cases ef : c.names.find? fun n => !hasT st.tb n with
        | some y => rw [ef] at e; cases e
        | none =>
          have z2 := List.find?_eq_none.mp ef n hn
          have z3 : hasT st.tb n = true := by simpa using z2
          exact z3
    · show (st.cs ++ [(a, c)]).length ≤ 5
      rw [List.length_append, List.length_singleton]
      have : st.cs.length < 5 := hf
      omega
  | remove n =>
    have e : (if hasT st.tb n = true then (use n 0 (cms st.cs)).map Due.inuse else some (.unknown n)) = none := hd
    split at e
    · have e2 : use n 0 (cms st.cs) = none := by
        cases z : use n 0 (cms st.cs) with
        | none => rfl
        | some i => rw [z] at e; cases e
      refine ⟨List.Nodup.sublist (List.Sublist.map _ List.filter_sublist) h.nd, fun c hc m hm => has_drop (h.nm c hc m hm) fun z => ?_, h.cl⟩
      exact use_none e2 c.2 (List.mem_map_of_mem hc) (z ▸ hm)
    · cases e
  | lift i =>
    have sub : ∀ c ∈ st.cs.take i.toNat ++ st.cs.drop (i.toNat + 1), c ∈ st.cs := fun c hc => by
      rcases List.mem_append.mp hc with z | z
      · exact List.mem_of_mem_take z
      · exact List.mem_of_mem_drop z
    refine ⟨h.nd, fun c hc m hm => h.nm c (sub c hc) m hm, ?_⟩
    show (st.cs.take i.toNat ++ st.cs.drop (i.toNat + 1)).length ≤ 5
    have := h.cl
    rw [List.length_append, List.length_take, List.length_drop]
    have h5 : st.cs.length ≤ 5 := h.cl
    omega
  | undo =>
    show Std ((match st.past.getLast? with | some (t, c) => (⟨t, c, st.past.dropLast⟩ : Sta) | none => st).tb, (match st.past.getLast? with | some (t, c) => (⟨t, c, st.past.dropLast⟩ : Sta) | none => st).cs)
    cases e : st.past.getLast? with
    | none => exact h
    | some x => exact hu x (List.mem_of_getLast? e)
theorem StOk.become {ms : List Int} {k : Nat} {st : Sta} (h : StOk k st) {d : Dd} (hd : due ms st d = none) (hf : d.fits st) : StOk (k + 1) (K56.become st d) := by
  have hn := h.now.become h.was hd hf
  have hp : (∀ e ∈ st.push, Std e) ∧ st.push.length ≤ k + 1 := by
    unfold Sta.push
    refine ⟨fun e he => ?_, ?_⟩
    · rcases List.mem_append.mp he with z | z
      · exact h.was e z
      · rw [List.mem_singleton] at z
        rw [z]; exact h.now
    · have := h.len
      rw [List.length_append, List.length_singleton]
      omega
  cases d with
  | undo =>
    have hl := h.len
    refine ⟨hn, fun e he => ?_, ?_⟩
    · have he : e ∈ (match st.past.getLast? with | some (t, c) => (⟨t, c, st.past.dropLast⟩ : Sta) | none => st).past := he
      cases z : st.past.getLast? with
      | none => rw [z] at he; exact h.was e he
      | some x => rw [z] at he; exact h.was e (List.dropLast_subset _ he)
    · show (match st.past.getLast? with | some (t, c) => (⟨t, c, st.past.dropLast⟩ : Sta) | none => st).past.length ≤ k + 1
      cases z : st.past.getLast? with
      | none => show st.past.length ≤ k + 1; omega
      | some x => show st.past.dropLast.length ≤ k + 1; rw [List.length_dropLast]; omega
  | _ => exact ⟨hn, hp.1, hp.2⟩
theorem StOk.undo {k : Nat} {st : Sta} (h : StOk k st) : StOk k (K56.become st .undo) := by
  have hl := h.len
  refine ⟨?_, fun e he => ?_, ?_⟩
  · show Std ((match st.past.getLast? with | some (t, c) => (⟨t, c, st.past.dropLast⟩ : Sta) | none => st).tb, (match st.past.getLast? with | some (t, c) => (⟨t, c, st.past.dropLast⟩ : Sta) | none => st).cs)
    cases e : st.past.getLast? with
    | none => exact h.now
    | some x => exact h.was x (List.mem_of_getLast? e)
  · have he : e ∈ (match st.past.getLast? with | some (t, c) => (⟨t, c, st.past.dropLast⟩ : Sta) | none => st).past := he
    cases z : st.past.getLast? with
    | none => rw [z] at he; exact h.was e he
    | some x => rw [z] at he; exact h.was e (List.dropLast_subset _ he)
  · show (match st.past.getLast? with | some (t, c) => (⟨t, c, st.past.dropLast⟩ : Sta) | none => st).past.length ≤ k
    cases z : st.past.getLast? with
    | none => exact hl
    | some x => show st.past.dropLast.length ≤ k; rw [List.length_dropLast]; omega
theorem StOk.le {k l : Nat} {st : Sta} (h : StOk k st) (hl : k ≤ l) : StOk l st := ⟨h.now, h.was, Nat.le_trans h.len hl⟩
theorem StOk.begin : StOk 0 ⟨[], [], []⟩ := ⟨⟨List.nodup_nil, (fun _ h => absurd h List.not_mem_nil), Nat.zero_le _⟩, (fun _ h => absurd h List.not_mem_nil), Nat.le_refl _⟩
end K56
namespace K56
def Due.ok : Due → Prop
  | .broken i f => i ≤ 10 ∧ f.ok
  | .inuse i => i ≤ 10
  | .place i => -100 ≤ i ∧ i ≤ 100
  | _ => True
def Dd.ok : Dd → Prop
  | .put _ _ p => Ok p
  | .lift i => -100 ≤ i ∧ i ≤ 100
  | _ => True
theorem brk_is {t : Tb} {ms : List Int} {n : Nm} : ∀ {l : List Cm} {i : Nat} {u : Due}, brk t ms n i l = some u → ∃ (j : Nat) (f : Fd) (c : Cm), u = .broken j f ∧ j < i + l.length ∧ faultC t ms c = some f
  | [], _, _, h => by cases h
  | c :: l, i, u, h => by
    have next : brk t ms n (i + 1) l = some u → ∃ (j : Nat) (f : Fd) (c' : Cm), u = .broken j f ∧ j < i + (c :: l).length ∧ faultC t ms c' = some f := fun h => by
      obtain ⟨j, f, c', e1, e2, e3⟩ := brk_is h
      exact ⟨j, f, c', e1, by rw [List.length_cons]; omega, e3⟩
    unfold brk at h
    split at h
    · cases ef : faultC t ms c with
      | some f =>
        rw [ef] at h
        cases h
        exact ⟨i, f, c, rfl, by rw [List.length_cons]; omega, ef⟩
      | none =>
        rw [ef] at h
        exact next h
    · exact next h
theorem use_lt {n : Nm} : ∀ {l : List Cm} {i j : Nat}, use n i l = some j → j < i + l.length
  | [], _, _, h => by cases h
  | c :: l, i, j, h => by
    unfold use at h
    split at h
    · cases h
      rw [List.length_cons]
      omega
    · have := use_lt h
      rw [List.length_cons]
      omega
theorem TbOk.put {t : Tb} (h : TbOk t) {n : Nm} {a : Nat × Pt} (ha : Ok a.2) : TbOk (putT t n a) := fun p hp => by
  rcases mem_put hp with z | z
  · exact h p z
  · rw [z]; exact ha
theorem due_ok {ms : List Int} (hb : Band ms) {st : Sta} (ht : TbOk st.tb) (hs : StOk 100 st) {d : Dd} (hd : d.ok) {u : Due} (h : due ms st d = some u) : u.ok := by
  have hl : (cms st.cs).length ≤ 5 := by
    unfold cms
    rw [List.length_map]
    exact hs.now.cl
  cases d with
  | put n a p =>
    obtain ⟨j, f, c, rfl, h2, h3⟩ := brk_is (show brk (putT st.tb n (a, p)) ms n 0 (cms st.cs) = some u from h)
    exact ⟨by omega, faultC_ok (ht.put (show Ok p from hd)) hb h3⟩
  | claim a c =>
    have e : (match c.names.find? fun n => !hasT st.tb n with
      | some n => some (Due.unknown n)
      | none => (faultC st.tb ms c).map (.broken st.cs.length)) = some u := h
    cases ef : c.names.find? fun n => !hasT st.tb n with
    | some y =>
      rw [ef] at e
      cases e
      trivial
    | none =>
      rw [ef] at e
      cases eg : faultC st.tb ms c with
      | none => rw [eg] at e; cases e
      | some f =>
        rw [eg] at e
        cases e
        have hc : st.cs.length ≤ 5 := hs.now.cl
        exact ⟨by omega, faultC_ok ht hb eg⟩
  | remove n =>
    have e : (if hasT st.tb n = true then (use n 0 (cms st.cs)).map Due.inuse else some (.unknown n)) = some u := h
    split at e
    · cases eu : use n 0 (cms st.cs) with
      | none => rw [eu] at e; cases e
      | some j =>
        rw [eu] at e
        cases e
        have := use_lt eu
        show j ≤ 10
        omega
    · cases e
      trivial
  | lift i =>
    have e : (if 0 ≤ i ∧ i < st.cs.length then none else some (Due.place i)) = some u := h
    split at e
    · cases e
    · cases e
      exact hd
  | undo =>
    have e : (if st.past = [] then some Due.nothing else none) = some u := h
    split at e
    · cases e
      trivial
    · cases e
end K56
namespace K56
open PySem PySem.Spec PyProof.Rows L2
section
variable {prog : Program} {w : World} {A : Around} {E : Value → Shared → Prop} {s : Shared}
theorem star_shape {tm tk tv : Sem Value} {Q : Value → Shared → Prop}
    (h : wpAny (model prog w) A tm (fun m s1 => wpAny (model prog w) A (mergeMapping s.heap.objs.size m false) (fun _ s2 => wpAny (model prog w) A tk (fun kv s3 => wpAny (model prog w) A tv (fun vv s4 => wpAny (model prog w) A (dictSet s2.heap.objs.size kv vv) (fun _ s5 => wpAny (model prog w) A (mergeMapping s.heap.objs.size (.ref s2.heap.objs.size) false) (fun _ s6 => Q (.ref s.heap.objs.size) s6) (fun _ _ => False) s5) E s4) E s3) E
        { s2 with heap := s2.heap.push { cls := .type "dict", data := .dict #[] } }) (fun _ _ => False) s1) E { s with heap := s.heap.push { cls := .type "dict", data := .dict #[] } }) :
    wpAny (model prog w) A (dictDisplay [(none, tm), (some tk, tv)]) Q E s := by
  unfold dictDisplay
  dsimp only
  repeat wp_step
  refine wpAny_mono h (fun m s1 h1 => ?_) fun _ _ e => e
  refine wpAny_bind (wpAny_onRaise (wpAny_tryCatch (wpAny_onRaise (wpAny_holding (wpAny_mono h1 (fun _ s2 h2 => ?_) fun _ _ e => e.elim)))))
  repeat wp_step
  refine wpAny_mono h2 (fun kv s3 h3 => ?_) fun _ _ e => e
  refine wpAny_bind (wpAny_holding (wpAny_mono h3 (fun vv s4 h4 => ?_) fun _ _ e => e))
  refine wpAny_bind (wpAny_holding (wpAny_pure (wpAny_pure (wpAny_holding ?_))))
  refine wpAny_bind ?_
  rw [List.forIn_cons]
  refine wpAny_bind (wpAny_bind (wpAny_mono h4 (fun _ s5 h5 => wpAny_pure ?_) fun _ _ e => e))
  show wpAny _ _ (forIn [] PUnit.unit _) _ _ _
  rw [List.forIn_nil]
  refine wpAny_pure (wpAny_pure (wpAny_pure ?_))
  refine wpAny_bind (wpAny_onRaise (wpAny_holding (wpAny_mono h5 (fun _ s4 h4 => ?_) fun _ _ e => e.elim)))
  repeat wp_step
  all_goals exact h4
end
theorem putK_fresh {kvs : List (Key × V)} {k : Key} {v : V} (h : k ∉ kvs.map (·.1)) : putK kvs k v = kvs ++ [(k, v)] := by
  unfold putK
  rw [if_neg]
  intro c
  obtain ⟨p, hp, e⟩ := List.any_eq_true.mp c
  exact h (List.mem_map.mpr ⟨p, hp, of_decide_eq_true e⟩)
theorem mergeK_app : ∀ (more kvs : List (Key × V)), ((kvs ++ more).map (·.1)).Nodup → mergeK kvs more = kvs ++ more
  | [], kvs, _ => by rw [List.append_nil]; rfl
  | p :: r, kvs, h => by
    have hf : p.1 ∉ kvs.map (·.1) := by
      intro hm
      rw [List.map_append, List.nodup_append] at h
      exact h.2.2 _ hm _ (List.mem_map.mpr ⟨p, List.mem_cons_self, rfl⟩) rfl
    show mergeK (putK kvs p.1 p.2) r = _
    rw [putK_fresh hf, mergeK_app r _ (by rw [List.append_assoc]; exact h), List.append_assoc]
    rfl
theorem mergeK_nil {kvs : List (Key × V)} (h : (kvs.map (·.1)).Nodup) : mergeK [] kvs = kvs := mergeK_app kvs [] h
section
variable {X : Cx} {pos : Pos} {em ek ev : Expr} {tm tk tv : TE}
/-- {**m, k: v} -/
def tDStar (tm tk tv : TE) : TE := fun σ H Q => ∀ p, H p = none → tm σ (upd H p (.dK [])) fun x H1 => H1 p = some (.dK []) ∧ ∃ a kvs, x = .ref a ∧ H1 a = some (.dK kvs) ∧ a ≠ p ∧ (kvs.map (·.1)).Nodup ∧ kvs.length + 1 ≤ sizeLine ∧
  ∀ q, H1 q = none → tk σ (upd (upd H1 p (.dK kvs)) q (.dK [])) fun y H3 => tv σ H3 fun z H4 => H4 p = some (.dK kvs) ∧ H4 q = some (.dK []) ∧ ∃ k, y = kV k ∧ Q (.ref p) (upd (upd H4 q (.dK [(k, z)])) p (.dK (putK kvs k z)))
theorem pe_dstar (hm : PE X em tm) (hk : PE X ek tk) (hv : PE X ev tv) : PE X (.Dict [none, some ek] [em, ev] pos) (tDStar tm tk tv) := by
  refine ⟨fun pins s σ H Q I h => ?_⟩
  rw [arm_eval_Dict]
  refine wpAny_bind (wpAny_standAt ?_)
  show wpAny _ _ (dictDisplay [(none, do let x ← eval em X.env; standAt pos; pure x), (some (eval ek X.env), do let x ← eval ev X.env; standAt pos; pure x)]) _ _ _
  refine star_shape ?_
  have hn := I.hok.fresh (Nat.le_refl s.heap.objs.size)
  have I1 := I.laid (a := s.heap.objs.size) (o := .dK []) (h' := s.heap.push { cls := .type "dict", data := .dict #[] }) (t' := s.toks) (fun _ _ q => Heap.get?_push_of_some _ q) (Nat.le_refl _) (dk_empty s.heap I.big)
  refine wpAny_bind (thn (hm.run pins _ σ _ _ I1 (h _ hn)) fun u s1 ⟨x, H1, I1, rx, ep, a, kvs, ex, ea, nap, nd, hz, q1⟩ => wpAny_bind (wpAny_standAt (wpAny_pure ?_)))
  subst ex
  obtain rfl : u = Value.ref a := rx
  obtain ⟨_, hpS, vp, rp, dp⟩ := dk_of I1.hok ep
  cases rp
  obtain ⟨_, haS, va, ra, da⟩ := dk_of I1.hok ea
  have la : va.length = kvs.length := ra.length.symm
  refine merge_map (Ne.symm nap) haS dp da (fun h' tk' D1 D2 hs => ?_) (by rw [List.length_nil, la]; omega)
  have e1 : ∃ q, h'.get? s.heap.objs.size = some q := let ⟨q, _, _, hq, _⟩ := D1; ⟨q, hq⟩
  have M1 : KV kvs (merged [] va) := by
    have z := ra.merge .nil
    rwa [mergeK_nil nd] at z
  have I2 : Inv X pins σ (upd H1 s.heap.objs.size (.dK kvs)) { s1 with heap := h', toks := tk' } := d_write I1 (by rw [ep]; exact True.intro) hs e1 (dk_new (by omega) hpS M1 D1)
  have hn2 : upd H1 s.heap.objs.size (.dK kvs) h'.objs.size = none := I2.hok.fresh (Nat.le_refl _)
  have nqp : h'.objs.size ≠ s.heap.objs.size := fun z => by rw [z, upd_same] at hn2; cases hn2
  have hn1 : H1 h'.objs.size = none := by rw [upd_ne nqp] at hn2; exact hn2
  have I3 := I2.laid (a := h'.objs.size) (o := .dK []) (h' := h'.push { cls := .type "dict", data := .dict #[] }) (t' := tk') (fun _ _ q => Heap.get?_push_of_some _ q) (Nat.le_refl _) (dk_empty h' I2.big)
  refine thn (hk.run pins _ σ _ _ I3 (q1 _ hn1)) fun u3 s3 ⟨y, H3, I3, ry, q3⟩ => ?_
  refine wpAny_bind (thn (hv.run pins _ σ _ _ I3 q3) fun u4 s4 ⟨z, H4, I4, rz, e4p, e4q, k, ey, q4⟩ => wpAny_bind (wpAny_standAt (wpAny_pure ?_)))
  subst ey
  obtain ⟨_, hqS, vq, rq, dq⟩ := dk_of I4.hok e4q
  cases rq
  refine wpAny_dictSet_pairs (hsz := Nat.zero_le _) (kV_is (P := X.prog) (w := X.w) ry) dq fun h5 D5 hs5 => ?_
  have e5 : ∃ q, h5.get? h'.objs.size = some q := let ⟨q, _, _, hq, _⟩ := D5; ⟨q, hq⟩
  have K5 : KV [(k, z)] (stored [] k u4) := by
    have z5 := KV.put (kvs := []) (vs := []) .nil k rz
    exact z5
  have I5 : Inv X pins σ (upd H4 h'.objs.size (.dK [(k, z)])) { s4 with heap := h5, toks := s4.toks + 1 } := d_write I4 (by rw [e4q]; exact True.intro) hs5 e5 (dk_new (by rw [sizeLine_eq]; exact (by decide : 1 ≤ 16777216)) hqS K5 D5)
  have e5p : upd H4 h'.objs.size (.dK [(k, z)]) s.heap.objs.size = some (.dK kvs) := by rw [upd_ne (Ne.symm nqp)]; exact e4p
  obtain ⟨_, _, vp2, rp2, dp2⟩ := dk_of I5.hok e5p
  have lp : vp2.length = kvs.length := rp2.length.symm
  refine merge_map (Ne.symm nqp) hqS dp2 D5 (fun h6 tk6 D6 _ hs6 => ?_) (by rw [lp]; show kvs.length + 1 ≤ sizeLine; exact hz)
  have e6 : ∃ q, h6.get? s.heap.objs.size = some q := let ⟨q, _, _, hq, _⟩ := D6; ⟨q, hq⟩
  have M6 : KV (putK kvs k z) (merged vp2 (stored [] k u4)) := by
    have z6 := KV.merge (more := [(k, z)]) K5 rp2
    exact z6
  refine ⟨.ref s.heap.objs.size, _, d_write I5 (by rw [e5p]; exact True.intro) hs6 e6 (dk_new ?_ hpS M6 D6), rfl, q4⟩
  have z7 := length_putK kvs k z
  omega
end
end K56
namespace K56
open PySem PySem.Spec PyProof.Rows L2 PySem.Calls
/-! ### for i, x in enumerate(t), t a tuple -/
theorem draws_tup {P : Program} {w : World} {A : Around} {it t : Addr} {items : Array Value} (hh : A.handled = none) (hne : t ≠ it) : Draws P w A it [it, t] items.size (fun i v => items[i]? = some v) (fun i h => h.IsTupleIter it t i ∧ h.IsTuple t items) where
  live := fun i h st => let ⟨⟨o, ho, _⟩, _⟩ := st; ⟨o, ho⟩
  frame := fun i h h' st k => by
    obtain ⟨⟨o, ho, r⟩, ⟨o2, ho2, r2⟩⟩ := st
    exact ⟨⟨o, k it (by simp) _ ho, r⟩, ⟨o2, k t (by simp) _ ho2, r2⟩⟩
  item := fun i s Q E hi st hq => by
    obtain ⟨hit, ht⟩ := st
    have hx : items[i]? = some items[i] := Array.getElem?_eq_getElem hi
    refine RZ.nextOf_tuple_item hit ht hx fun h' hit' hs => ?_
    exact hq _ h' s.toks hx ⟨hit', ht.extBut hs.extBut hne⟩ hs
  done := fun s Q E st hE => by
    obtain ⟨hit, ht⟩ := st
    exact RZ.nextOf_tuple_end hh hit ht (by simp) hE
def IteT (K : PySem.W.Frag) (a : Addr) : It :=
  ⟨fun i H => ∃ (xs : List V) (x : V), SqT K H a xs ∧ xs[i]? = some x, fun i H v H' => ∃ T x, v = .ref T ∧ H T = none ∧ H' = upd H T (.tup [.int (i : Nat), x]) ∧ ∀ xs, SqT K H a xs → xs[i]? = some x, fun i H => ∃ xs : List V, SqT K H a xs ∧ i = xs.length⟩
theorem turn_enumT {P : Program} {w : World} {K : PySem.W.Frag} {elts : List Expr} {kk : Nat} {tpos : Pos} (a e it : Addr) :
    Turn P w K (.Tuple elts kk tpos) (IteT K a) [e, it] e (fun i h => (∃ old, IsEnum h e it ((i : Nat) : Int) old) ∧ h.IsTupleIter it a i ∧ e ≠ it ∧ e ≠ a ∧ a ≠ it) where
  mem := by simp
  obj := fun i h st b hb => by
    obtain ⟨⟨old, he⟩, ⟨o, ho, hc, hd⟩, _⟩ := st
    have e' : b = e ∨ b = it := by simpa using hb
    rcases e' with z | z
    · rw [z]; exact ⟨_, he, fun v q => nomatch q⟩
    · rw [z]; exact ⟨o, ho, fun v q => by rw [hd] at q; cases q⟩
  keep := fun i h h' st k => let ⟨⟨old, he⟩, hi, hne⟩ := st; ⟨⟨old, k e (by simp) _ he⟩, hi.at fun o q => k it (by simp) o q, hne⟩
  item := by
    intro X hP hw hK hc i pins s σ H E I hf st hg
    subst hP hw hK
    obtain ⟨⟨old, he⟩, hit, hne, hea, hai⟩ := st
    obtain ⟨xs, x, hq, hx⟩ := hg
    obtain ⟨its, rv, p, hz⟩ := I.tuple hq
    obtain ⟨u, hu, ru⟩ := rv.get hx
    have hel : e < s.heap.objs.size := Heap.lt_size he
    have hil : it < s.heap.objs.size := by obtain ⟨_, q, _⟩ := hit; exact Heap.lt_size q
    have ht : s.heap.IsTuple a its.toArray := p
    have hlt : i < its.toArray.size := by
      have := (List.getElem?_eq_some_iff.mp hu).1
      simpa using this
    refine wpAny_pyNext_enum_itemD (draws_tup (I.ok.hd hc) hai) he ⟨hit, ht⟩ hlt hne (by simp [hne, hea]) fun u' h' tk hu' ho hit' hT hsz hk => ?_
    have eu : u' = u := by
      have z : its.toArray[i]? = some u := by simpa using hu
      rw [z] at hu'
      exact (Option.some.inj hu').symm
    subst eu
    refine ⟨_, rfl, wpAny_letOwnedTupleGo_enum (s := { s with heap := h', toks := tk + 1 }) ho fun h'' he' sb => ?_⟩
    have hT2 : h''.get? s.heap.objs.size = some { cls := .type "tuple", data := .seq #[.int i tk, u'] } := (sb.2 _ (Nat.ne_of_gt hel)).trans hT
    have new : ObjOk X.prog X.w (upd H s.heap.objs.size (.tup [.int (i : Nat), x])) h'' s.heap.objs.size (.tup [.int (i : Nat), x]) :=
      ⟨by show 2 ≤ sizeLine; decide, [.int i tk, u'], .cons ⟨_, rfl⟩ (.cons ru .nil), ⟨_, hT2, rfl, _, rfl⟩⟩
    have I1 : Inv X pins σ (upd H s.heap.objs.size (.tup [.int (i : Nat), x])) { s with heap := h'', toks := tk + 1 } :=
      I.turnedNew (ch := [e, it]) (fun b ob hb q => (sb.2 b (fun z => hb (by simp [z]))).trans (hk b ob (fun z => hb (by simp [z])) (fun z => hb (by simp [z])) q)) hf (Nat.le_refl _) new
    refine ⟨.ref s.heap.objs.size, _, I1, rfl, ⟨_, x, rfl, I.hok.fresh (Nat.le_refl _), rfl, fun ys hy => by rw [I.tuple_inj hy hq]; exact hx⟩, ⟨⟨u', ?_⟩, hit'.1.at fun o q => (sb.2 it (Ne.symm hne)).trans q, hne, hea, hai⟩, fun b hb => ?_⟩
    · have e1 : ((i + 1 : Nat) : Int) = (i : Int) + 1 := by omega
      rw [e1]; exact he'
    · have hb' : b < s.heap.objs.size := by
        have e' : b = e ∨ b = it := by simpa using hb
        rcases e' with z | z
        · rw [z]; exact hel
        · rw [z]; exact hil
      rw [upd_ne (Nat.ne_of_lt hb')]
      exact (hf b hb).1
  done := by
    intro X hP hw hK hc i pins s σ H E I hf st hg
    subst hP hw hK
    obtain ⟨⟨old, he⟩, hit, hne, hea, hai⟩ := st
    obtain ⟨xs, hq, hx⟩ := hg
    obtain ⟨its, rv, p, hz⟩ := I.tuple hq
    obtain ⟨f0, f1, f2, f3, f4, f5⟩ := hf it (by simp)
    have hl := rv.length
    have ei : i = its.toArray.size := by simp; omega
    subst ei
    exact wpAny_pyNext_enum_endD (draws_tup (I.ok.hd hc) hai) he ⟨hit, p⟩ fun h' eb => ⟨rfl, I.turned (t' := s.toks) (fun b o hb q => eb b o hb q) f0 f1 f3 f4 f5⟩
  self := fun A i s Q E st h => let ⟨⟨_, he⟩, _⟩ := st; wpAny_pyIter_enum he h
theorem meets_enumT (l : Addr) (items : Array Value) (n : Nat) (dct : Option Addr) (sl : Array (Option Value)) :
    Meets (Builtin.«enumerate.__new__» ⟨[.type "enumerate", .ref l], []⟩) (fun _ R s => s.heap.get? l = some { cls := .type "tuple", dict := dct, data := .seq items n, slots := sl } ∧
      R (.ok (.ret (.ref (s.heap.push { cls := .type "tuple_iterator", data := .fields #[.ref l, .int 0 0] }).objs.size)))
        { s with heap := (s.heap.push { cls := .type "tuple_iterator", data := .fields #[.ref l, .int 0 0] }).push { cls := .type "enumerate", data := .fields #[.none, .bool false, .ref s.heap.objs.size, rawInt 0, .none, .none] } }) :=
  .of_wp fun prog w A R s h => by
    obtain ⟨hp, g, d, tk, os⟩ := s; obtain ⟨hl, h⟩ := h
    have hsub := sub_enumerate
    have hL : Heap.IsTuple (Shared.heap ⟨hp, g, d, tk, os⟩) l items := ⟨_, hl, rfl, n, rfl⟩
    wp_walk using AutoSeq1.wpAny_loadPart' hl
    refine wpAny_stack_any fun st => wpAny_pure ?_
    split
    · rename_i c _ _ _ _ _
      cases (c == Value.type "enumerate")
      · wp_walk using AutoSeq1.wpAny_loadPart' hl, wpAny_pyIter_tuple hL
        exact ⟨_, rfl, h⟩
      · wp_walk using AutoSeq1.wpAny_loadPart' hl, wpAny_pyIter_tuple hL
        exact ⟨_, rfl, h⟩
    · wp_walk using AutoSeq1.wpAny_loadPart' hl, wpAny_pyIter_tuple hL
      exact ⟨_, rfl, h⟩
theorem call_enumT {prog : Program} {w : World} {A : Around} {E : Value → Shared → Prop} {s : Shared} {l : Addr} {items : Array Value} {Q : Value → Shared → Prop} (hL : s.heap.IsTuple l items)
    (h : ∀ h', IsEnum h' (s.heap.objs.size + 1) s.heap.objs.size 0 .none → h'.IsTupleIter s.heap.objs.size l 0 → h'.objs.size = s.heap.objs.size + 2 →
      (∀ b o, s.heap.get? b = some o → h'.get? b = some o) → Q (.ref (s.heap.objs.size + 1)) { s with heap := h' }) :
    wpAny (model prog w) A (call (.type "enumerate") [.ref l]) Q E s := by
  obtain ⟨⟨c, dct, dt, sl⟩, hl, hc, n, hd⟩ := hL
  replace hc : c = .type "tuple" := hc
  replace hd : dt = .seq items n := hd
  subst hc hd
  refine callType_new PySem.F.called_enumerate (by decide) (PySem.F.typeCall_enumerate_1 _) (PySem.F.newCall_enumerate_1 _) (fun obj => PySem.F.args_object_init_2 obj _) PySem.F.entry_enumerate_new
    (meets_enumT l items n dct sl) ⟨hl, ?_⟩
  have hz : (s.heap.push { cls := .type "tuple_iterator", data := .fields #[.ref l, .int 0 0] }).objs.size = s.heap.objs.size + 1 := Heap.size_push ..
  show _ ∧ _
  rw [hz]
  have he : IsEnum ((s.heap.push { cls := .type "tuple_iterator", data := .fields #[.ref l, .int 0 0] }).push
      { cls := .type "enumerate", data := .fields #[.none, .bool false, .ref s.heap.objs.size, rawInt 0, .none, .none] }) (s.heap.objs.size + 1) s.heap.objs.size 0 .none := by
    have := Heap.get?_push_size (s.heap.push { cls := .type "tuple_iterator", data := .fields #[.ref l, .int 0 0] })
      (o := { cls := .type "enumerate", data := .fields #[.none, .bool false, .ref s.heap.objs.size, rawInt 0, .none, .none] }) rfl
    rw [hz] at this; exact this
  refine ⟨⟨_, he, rfl⟩, h _ he ⟨_, Heap.get?_push_of_some _ (Heap.get?_push_size _ rfl), rfl, rfl⟩ (by rw [Heap.size_push, hz]) fun b o x => Heap.get?_push_of_some _ (Heap.get?_push_of_some _ x)⟩
def iEnumT (K : PySem.W.Frag) (ta : TA) : TI := fun σ H R => ta σ H fun vs H1 => ∃ a xs, vs = [.ref a] ∧ SqT K H1 a xs ∧ R (IteT K a) H1
theorem pi_enumT {X : Cx} {e : Expr} {ta : TA} {p pos tpos : Pos} {elts : List Expr} {kk : Nat} (hg : Gl X "enumerate") (hm : X.mg "enumerate" = none) (ha : PA X [e] ta) (hs : starEach [e] X.env = [(false, eval e X.env)] := by rfl) :
    PI X (.Tuple elts kk tpos) (.Call (.Name "enumerate" p) [e] [] pos) (iEnumT X.K ta) := by
  refine ⟨fun pins s σ H R I h => ?_⟩
  refine Call_ (ld_blt I hg hm boot_enumerate (PyProof.Rows.callWith_type1 (thn (ha.run pos pins s σ H _ I h) fun us s1 ⟨vs, H1, I1, r1, q1⟩ => ?_) hs rfl))
  obtain ⟨a, xs, ex, hq, q⟩ := q1
  subst ex
  cases r1 with
  | cons r rr =>
    cases rr
    cases r
    obtain ⟨its, rv, p', hz⟩ := I1.tuple hq
    have hal : a < s1.heap.objs.size := by obtain ⟨o, e, _⟩ := p'; exact Heap.lt_size e
    refine call_enumT (show s1.heap.IsTuple a its.toArray from p') fun h' he hit hsz hk => wpAny_pyIter_enum he ?_
    have I2 : Inv X pins σ H1 { s1 with heap := h' } := I1.kept (t' := s1.toks) hk
    refine ⟨s1.heap.objs.size + 1, [s1.heap.objs.size + 1, s1.heap.objs.size], _, _, H1, rfl, I2, turn_enumT a (s1.heap.objs.size + 1) s1.heap.objs.size, ⟨⟨.none, he⟩, hit, Nat.succ_ne_self _, Nat.ne_of_gt (Nat.lt_succ_of_lt hal), Nat.ne_of_lt hal⟩, fun b hb => ?_, q⟩
    have e' : b = s1.heap.objs.size + 1 ∨ b = s1.heap.objs.size := by simpa using hb
    have hle : s1.heap.objs.size ≤ b := by
      rcases e' with z | z
      · rw [z]; exact Nat.le_add_right _ _
      · rw [z]; exact Nat.le_refl _
    exact I1.fpOk hle (I1.hok.fresh hle)
end K56
namespace K56
open PySem PySem.Spec PyProof.Rows L2 PySem.Calls
/-! ### zip(t, l), t a tuple, l a list -/
theorem apart_sep {z TI TO i1 i2 a b : Addr} (D : ZipApart z TI TO i1 i2 a b) : ZipSep2 z TI TO i1 i2 [i1, a] [i2, b] where
  TIz := D.TIz
  TOz := D.TOz
  TITO := D.TITO
  TIi1 := D.TIi1
  mem1 := by simp
  zf1 := by simp [D.i1z.symm, D.l1z.symm]
  Tf1 := by simp [D.TOi1, D.l1TO.symm]
  TIi2 := D.TIi2
  mem2 := by simp
  zf2 := by simp [D.i2z.symm, D.l2z.symm]
  Tf2 := by simp [D.TOi2, D.l2TO.symm]
  sep1_2 := by simp [D.i12, D.l2i1.symm]
  sep2_1 := by simp [D.i12.symm, D.l1i2.symm]
def ItzM (K : PySem.W.Frag) (a b : Addr) : It :=
  ⟨fun i H => ∃ (xs ys : List V) (x y : V), SqT K H a xs ∧ SqL K H b ys ∧ xs[i]? = some x ∧ ys[i]? = some y,
    fun i H v H' => ∃ T x y, v = .ref T ∧ H T = none ∧ H' = upd H T (.tup [x, y]) ∧ (∀ xs, SqT K H a xs → xs[i]? = some x) ∧ ∀ ys, SqL K H b ys → ys[i]? = some y,
    fun i H => ∃ xs ys : List V, SqT K H a xs ∧ SqL K H b ys ∧ i = xs.length ∧ i = ys.length⟩
theorem turn_zipM {P : Program} {w : World} {K : PySem.W.Frag} {elts : List Expr} {kk : Nat} {tpos : Pos} {a b z TI TO i1 i2 : Addr} (D : ZipApart z TI TO i1 i2 a b) :
    Turn P w K (.Tuple elts kk tpos) (ItzM K a b) [z, TI, TO, i1, i2] z (fun i h => IsZip h z TI TO .none ∧ IsPair h TI (.ref i1) (.ref i2) ∧ (∃ x y, IsPair h TO x y) ∧ h.IsTupleIter i1 a i ∧ h.IsListIter i2 b i) where
  mem := by simp
  obj := fun i h st c hc => by
    obtain ⟨hz, hTI, ⟨x, y, hTO⟩, ⟨o1, e1, _, d1⟩, ⟨o2, e2, _, d2⟩⟩ := st
    have e' : c = z ∨ c = TI ∨ c = TO ∨ c = i1 ∨ c = i2 := by simpa using hc
    rcases e' with q | q | q | q | q
    · rw [q]; exact ⟨_, hz, fun v q => nomatch q⟩
    · rw [q]; exact ⟨_, hTI, fun v q => nomatch q⟩
    · rw [q]; exact ⟨_, hTO, fun v q => nomatch q⟩
    · rw [q]; exact ⟨o1, e1, fun v q => by rw [d1] at q; cases q⟩
    · rw [q]; exact ⟨o2, e2, fun v q => by rw [d2] at q; cases q⟩
  keep := fun i h h' st k => by
    obtain ⟨hz, hTI, ⟨x, y, hTO⟩, h1, h2⟩ := st
    exact ⟨k z (by simp) _ hz, k TI (by simp) _ hTI, ⟨x, y, k TO (by simp) _ hTO⟩, h1.at fun o q => k i1 (by simp) o q, h2.at fun o q => k i2 (by simp) o q⟩
  item := by
    intro X hP hw hK hc i pins s σ H E I hf st hg
    subst hP hw hK
    obtain ⟨hz, hTI, ⟨x0, y0, hTO⟩, h1, h2⟩ := st
    obtain ⟨xs, ys, x, y, hqx, hqy, hx, hy⟩ := hg
    obtain ⟨its, rv, p, _⟩ := I.tuple hqx
    obtain ⟨its2, rv2, p2, _⟩ := I.list hqy
    obtain ⟨u, hu, ru⟩ := rv.get hx
    obtain ⟨u2, hu2, ru2⟩ := rv2.get hy
    have hzl : z < s.heap.objs.size := Heap.lt_size hz
    have hu' : its.toArray[i]? = some u := by simpa using hu
    have hu2' : its2.toArray[i]? = some u2 := by simpa using hu2
    have hlt : i < its.toArray.size := (Array.getElem?_eq_some_iff.mp hu').1
    have hlt2 : i < its2.toArray.size := (Array.getElem?_eq_some_iff.mp hu2').1
    have hh := I.ok.hd hc
    refine wpAny_pyNext_zipD2_item (apart_sep D) (draws_tup (A := X.A.in1) hh D.l1i1) (Draws.list (A := X.A.in1) hh i2 b D.l2i2 its2.toArray) hz hTI hTO ⟨h1, p⟩ ⟨h2, p2.isList⟩ hlt hlt2 fun v1 v2 h' tk e1 e2 z' TO' h1' h2' hT hsz hk => ?_
    have ev1 : v1 = u := by rw [hu'] at e1; exact (Option.some.inj e1).symm
    have ev2 : v2 = u2 := by rw [hu2'] at e2; exact (Option.some.inj e2).symm
    subst ev1
    subst ev2
    refine ⟨_, rfl, wpAny_letOwnedTupleGo_zip (s := { s with heap := h', toks := tk }) z' fun h'' z'' sb => ?_⟩
    have hT2 : h''.get? s.heap.objs.size = some { cls := .type "tuple", data := .seq #[v1, v2] } := (sb.2 _ (Nat.ne_of_gt hzl)).trans hT
    have new : ObjOk X.prog X.w (upd H s.heap.objs.size (.tup [x, y])) h'' s.heap.objs.size (.tup [x, y]) :=
      ⟨by show 2 ≤ sizeLine; decide, [v1, v2], .cons ru (.cons ru2 .nil), ⟨_, hT2, rfl, _, rfl⟩⟩
    have I1 : Inv X pins σ (upd H s.heap.objs.size (.tup [x, y])) { s with heap := h'', toks := tk } :=
      I.turnedNew (t' := tk) (ch := [z, TI, TO, i1, i2]) (fun c o hb q => (sb.2 c (fun q' => hb (by simp [q']))).trans (hk c o (fun q' => hb (by simp [q'])) (fun q' => hb (by simp [q'])) (fun q' => hb (by simp [q'])) (fun q' => hb (by simp [q'])) q)) hf (Nat.le_refl _) new
    refine ⟨.ref s.heap.objs.size, _, I1, rfl, ⟨_, x, y, rfl, I.hok.fresh (Nat.le_refl _), rfl, fun l hl => by rw [I.tuple_inj hl hqx]; exact hx, fun l hl => by rw [I.list_inj hl hqy]; exact hy⟩, ⟨z'', ?_, ⟨v1, v2, ?_⟩, ?_, ?_⟩, fun c hcm => ?_⟩
    · exact (sb.2 _ D.TIz).trans (hk _ _ D.TIz D.TITO D.TIi1 D.TIi2 hTI)
    · exact (sb.2 _ D.TOz).trans TO'
    · exact h1'.1.at fun o q => (sb.2 _ D.i1z).trans q
    · exact h2'.1.at fun o q => (sb.2 _ D.i2z).trans q
    · have hlt : c < s.heap.objs.size := by
        have e' : c = z ∨ c = TI ∨ c = TO ∨ c = i1 ∨ c = i2 := by simpa using hcm
        rcases e' with q | q | q | q | q
        · rw [q]; exact hzl
        · rw [q]; exact Heap.lt_size hTI
        · rw [q]; exact Heap.lt_size hTO
        · rw [q]; obtain ⟨_, e1, _⟩ := h1; exact Heap.lt_size e1
        · rw [q]; obtain ⟨_, e2, _⟩ := h2; exact Heap.lt_size e2
      rw [upd_ne (Nat.ne_of_lt hlt)]
      exact (hf c hcm).1
  done := by
    intro X hP hw hK hc i pins s σ H E I hf st hg
    subst hP hw hK
    obtain ⟨hz, hTI, ⟨x0, y0, hTO⟩, h1, h2⟩ := st
    obtain ⟨xs, ys, hqx, hqy, ex, ey⟩ := hg
    obtain ⟨its, rv, p, _⟩ := I.tuple hqx
    obtain ⟨its2, rv2, p2, _⟩ := I.list hqy
    have l1 := rv.length
    have l2 := rv2.length
    have e1 : i = its.toArray.size := by simp; omega
    have e2 : i = its2.toArray.size := by simp; omega
    have hh := I.ok.hd hc
    exact wpAny_pyNext_zipD2_end (apart_sep D) (draws_tup (A := X.A.in1) hh D.l1i1) (Draws.list (A := X.A.in1) hh i2 b D.l2i2 its2.toArray) hz hTI hTO ⟨h1, p⟩ ⟨h2, p2.isList⟩ (Nat.le_of_eq e1) (Nat.le_of_eq e2) (.inl e1) fun h' tk hk => ⟨rfl, I.turnedL (t' := tk) (ch := [z, TI, TO, i1, i2]) (fun c o hb q =>
      hk c o (fun q' => hb (by simp [q'])) (fun q' => hb (by simp [q'])) (fun q' => hb (by simp [q'])) (fun q' => hb (by simp [q'])) q) hf⟩
  self := fun A i s Q E st h => wpAny_pyIter_zip st.1 h
abbrev zM1 (h : Heap) (l1 : Addr) : Heap := h.push { cls := .type "tuple_iterator", data := .fields #[.ref l1, .int 0 0] }
abbrev zM2 (h : Heap) (l1 l2 : Addr) : Heap := (zM1 h l1).push { cls := .type "list_iterator", data := .fields #[.ref l2, .int 0 0] }
abbrev zM3 (h : Heap) (l1 l2 : Addr) : Heap := (zM2 h l1 l2).push { cls := .type "tuple", data := .seq #[.ref h.objs.size, .ref (zM1 h l1).objs.size] }
abbrev zM4 (h : Heap) (l1 l2 : Addr) : Heap := (zM3 h l1 l2).push { cls := .type "tuple", data := .seq #[.none, .none] }
abbrev zM5 (h : Heap) (l1 l2 : Addr) : Heap := (zM4 h l1 l2).push { cls := .type "zip", data := .fields #[.none, .bool false, .bool false, .ref (zM2 h l1 l2).objs.size, .ref (zM3 h l1 l2).objs.size] }
theorem meets_zipM (l1 l2 : Addr) (xs ys : Array Value) :
    Meets (Builtin.«zip.__new__» ⟨[.type "zip", .ref l1, .ref l2], []⟩) (fun _ R s => s.heap.IsTuple l1 xs ∧ s.heap.IsList l2 ys ∧
      R (.ok (.ret (.ref (zM4 s.heap l1 l2).objs.size))) { s with heap := zM5 s.heap l1 l2 }) :=
  .of_wp fun prog w A R s h => by
    obtain ⟨hp, g, d, tk, os⟩ := s; obtain ⟨hl1, hl2, h⟩ := h
    have hsub := sub_zip
    have hL1 : Heap.IsTuple (Shared.heap ⟨hp, g, d, tk, os⟩) l1 xs := hl1
    have hL2 : Heap.IsList (Shared.heap ⟨hp.push { cls := .type "tuple_iterator", data := .fields #[.ref l1, .int 0 0] }, g, d, tk, os⟩) l2 ys := by
      obtain ⟨o, ho, r⟩ := hl2
      exact ⟨o, Heap.get?_push_of_some _ ho, r⟩
    wp_walk using wpAny_pyIter_tuple hL1, wpAny_pyIter_list hL2
    exact ⟨_, rfl, h⟩
theorem call_zipM {prog : Program} {w : World} {A : Around} {E : Value → Shared → Prop} {s : Shared} {l1 l2 : Addr} {xs ys : Array Value} {Q : Value → Shared → Prop} (hl1 : s.heap.IsTuple l1 xs) (hl2 : s.heap.IsList l2 ys)
    (h : ∀ h', IsZip h' (s.heap.objs.size + 4) (s.heap.objs.size + 2) (s.heap.objs.size + 3) .none → IsPair h' (s.heap.objs.size + 2) (.ref s.heap.objs.size) (.ref (s.heap.objs.size + 1)) →
      IsPair h' (s.heap.objs.size + 3) .none .none → h'.IsTupleIter s.heap.objs.size l1 0 → h'.IsListIter (s.heap.objs.size + 1) l2 0 → h'.objs.size = s.heap.objs.size + 5 →
      (∀ c o, s.heap.get? c = some o → h'.get? c = some o) → Q (.ref (s.heap.objs.size + 4)) { s with heap := h' }) :
    wpAny (model prog w) A (call (.type "zip") [.ref l1, .ref l2]) Q E s := by
  refine callType_new PySem.F.called_zip (by decide) (PySem.F.typeCall_zip_2 _ _) (PySem.F.newCall_zip_2 _ _) (fun obj => PySem.F.args_object_init_3 obj _ _) PySem.F.entry_zip_new
    (meets_zipM l1 l2 xs ys) ⟨hl1, hl2, ?_⟩
  have z1 : (zM1 s.heap l1).objs.size = s.heap.objs.size + 1 := Heap.size_push ..
  have z2 : (zM2 s.heap l1 l2).objs.size = s.heap.objs.size + 2 := by rw [Heap.size_push, z1]
  have z3 : (zM3 s.heap l1 l2).objs.size = s.heap.objs.size + 3 := by rw [Heap.size_push, z2]
  have z4 : (zM4 s.heap l1 l2).objs.size = s.heap.objs.size + 4 := by rw [Heap.size_push, z3]
  have z5 : (zM5 s.heap l1 l2).objs.size = s.heap.objs.size + 5 := by rw [Heap.size_push, z4]
  have g5 : (zM5 s.heap l1 l2).get? (zM4 s.heap l1 l2).objs.size = some _ := Heap.get?_push_size _ rfl
  have g4 : (zM5 s.heap l1 l2).get? (zM3 s.heap l1 l2).objs.size = some _ := Heap.get?_push_of_some _ (Heap.get?_push_size _ rfl)
  have g3 : (zM5 s.heap l1 l2).get? (zM2 s.heap l1 l2).objs.size = some _ := Heap.get?_push_of_some _ (Heap.get?_push_of_some _ (Heap.get?_push_size _ rfl))
  have g2 : (zM5 s.heap l1 l2).get? (zM1 s.heap l1).objs.size = some _ := Heap.get?_push_of_some _ (Heap.get?_push_of_some _ (Heap.get?_push_of_some _ (Heap.get?_push_size _ rfl)))
  have g1 : (zM5 s.heap l1 l2).get? s.heap.objs.size = some _ := Heap.get?_push_of_some _ (Heap.get?_push_of_some _ (Heap.get?_push_of_some _ (Heap.get?_push_of_some _ (Heap.get?_push_size _ rfl))))
  show _ ∧ _
  rw [z2, z3, z4] at g5
  rw [z1, z2] at g3
  rw [z3] at g4
  rw [z1] at g2
  rw [z4]
  exact ⟨⟨_, g5, rfl⟩, h _ g5 g3 g4 ⟨_, g1, rfl, rfl⟩ ⟨_, g2, rfl, rfl⟩ z5 fun c o x =>
    Heap.get?_push_of_some _ (Heap.get?_push_of_some _ (Heap.get?_push_of_some _ (Heap.get?_push_of_some _ (Heap.get?_push_of_some _ x))))⟩
def iZipM (K : PySem.W.Frag) (ta : TA) : TI := fun σ H R => ta σ H fun vs H1 => ∃ a b xs ys, vs = [.ref a, .ref b] ∧ SqT K H1 a xs ∧ SqL K H1 b ys ∧ R (ItzM K a b) H1
theorem pi_zipM {X : Cx} {e e2 : Expr} {ta : TA} {p pos tpos : Pos} {elts : List Expr} {kk : Nat} (hg : Gl X "zip") (hm : X.mg "zip" = none) (ha : PA X [e, e2] ta)
    (hs : starEach [e, e2] X.env = (false, eval e X.env) :: starEach [e2] X.env := by rfl) (hpl : (backTo pos (starEach [e2] X.env)).any (·.1) = false := by rfl) :
    PI X (.Tuple elts kk tpos) (.Call (.Name "zip" p) [e, e2] [] pos) (iZipM X.K ta) := by
  refine ⟨fun pins s σ H R I h => ?_⟩
  refine Call_ (ld_blt I hg hm PyProof.Rows.boot_zip (PyProof.Rows.callWith_type1 (thn (ha.run pos pins s σ H _ I h) fun us s1 ⟨vs, H1, I1, r1, q1⟩ => ?_) hs hpl))
  obtain ⟨a, b, xs, ys, ex, hqx, hqy, q⟩ := q1
  subst ex
  cases r1 with
  | cons r rr =>
    cases rr with
    | cons r' rr =>
      cases rr
      cases r
      cases r'
      have fresh5 : ∀ c, c ∈ [s1.heap.objs.size + 4, s1.heap.objs.size + 2, s1.heap.objs.size + 3, s1.heap.objs.size, s1.heap.objs.size + 1] → FpOk X pins H1 c := fun c hcm => by
        have e' : c = s1.heap.objs.size + 4 ∨ c = s1.heap.objs.size + 2 ∨ c = s1.heap.objs.size + 3 ∨ c = s1.heap.objs.size ∨ c = s1.heap.objs.size + 1 := by simpa using hcm
        have hle : s1.heap.objs.size ≤ c := by
          rcases e' with z | z | z | z | z
          · rw [z]; exact Nat.le_add_right _ _
          · rw [z]; exact Nat.le_add_right _ _
          · rw [z]; exact Nat.le_add_right _ _
          · rw [z]; exact Nat.le_refl _
          · rw [z]; exact Nat.le_add_right _ _
        exact I1.fpOk hle (I1.hok.fresh hle)
      obtain ⟨its, rv, p1, _⟩ := I1.tuple hqx
      obtain ⟨its2, rv2, p2, _⟩ := I1.list hqy
      obtain ⟨o1, ho1, _⟩ := id p1
      refine call_zipM (show s1.heap.IsTuple a its.toArray from p1) p2.isList fun h' hz hTI hTO h1 h2 hsz hk => wpAny_pyIter_zip hz ?_
      have I2 : Inv X pins σ H1 { s1 with heap := h' } := I1.kept (t' := s1.toks) hk
      exact ⟨s1.heap.objs.size + 4, [s1.heap.objs.size + 4, s1.heap.objs.size + 2, s1.heap.objs.size + 3, s1.heap.objs.size, s1.heap.objs.size + 1], _, _, H1, rfl, I2, turn_zipM (PySem.W.ktu_apart s1.heap.objs.size a b (Heap.lt_size ho1) p2.lt), ⟨hz, hTI, ⟨_, _, hTO⟩, h1, h2⟩, fresh5, q⟩
end K56
namespace K56
open PySem PySem.Spec PyProof.Rows L2
section
variable {K : PySem.W.Frag} {a b : Addr} {xs ys : List V}
theorem walk_enumT : Walk (IteT K a) xs.length (fun H => SqT K H a xs) (YPair (fun i => some (.int (i : Nat))) (fun i => xs[i]?)) := by
  refine ⟨fun i _ hi q => ⟨xs, xs[i], q, by simp [hi]⟩, fun _ q => ⟨xs, q, rfl⟩, fun i H v H' _ q y => ?_⟩
  obtain ⟨T, x, h1, h2, h3, h4⟩ := y
  exact ⟨T, .int (i : Nat), x, h1, h2, h3, rfl, h4 xs q⟩
theorem walk_zipM (hl : xs.length = ys.length) : Walk (ItzM K a b) xs.length (fun H => SqT K H a xs ∧ SqL K H b ys) (YPair (fun i => xs[i]?) (fun i => ys[i]?)) := by
  refine ⟨fun i _ hi q => ?_, fun _ q => ⟨xs, ys, q.1, q.2, rfl, hl⟩, fun i H v H' _ q y => ?_⟩
  · exact ⟨xs, ys, xs[i], ys[i]'(by omega), q.1, q.2, by simp [hi], List.getElem?_eq_getElem _⟩
  · obtain ⟨T, x, z, h1, h2, h3, h4, h5⟩ := y
    exact ⟨T, x, z, h1, h2, h3, h4 xs q.1, h5 ys q.2⟩
end
section
variable {J : It} {n : Nat} {G : Hp → Prop} {Y : Nat → Hp → V → Hp → Prop}
theorem dc_it (w : Walk J n G Y) {g : TG} {tt : TT} {tk tv : TE} {vs : List Nat} {σ : L2.St} {H1 : Hp} {D : Addr} {Qd : Hp → Prop} (Pv : Nat → Hp → Prop) (h0 : Pv 0 (upd H1 D (.dK []))) (hG : ∀ i H, i ≤ n → Pv i H → G H)
    (hs : ∀ i x H H', i < n → Pv i H → Y i H x H' → g x (wipe σ vs) H' fun σ2 H2 => wipe σ2 vs = wipe σ vs ∧ tt σ2 H2 fun b H3 =>
      if b = true then tk σ2 H3 fun y H4 => tv σ2 H4 fun z H5 => ∃ kvs k, y = kV k ∧ H5 D = some (.dK kvs) ∧ kvs.length < sizeLine ∧ Pv (i + 1) (upd H5 D (.dK (putK kvs k z))) else Pv (i + 1) H3) (hd : ∀ H, Pv n H → Qd H) :
    ∃ W : Nat → Nat → Hp → Prop, (∃ m, W 0 m (upd H1 D (.dK []))) ∧ ∀ i m H, W i m H →
      (J.stop i H ∧ Qd H) ∨ (J.go i H ∧ ∃ Nx : Hp → Prop, (∀ H', Nx H' → ∃ m', m' < m ∧ W (i + 1) m' H') ∧ ∀ x H', J.yld i H x H' → g x (wipe σ vs) H' fun σ2 H2 => wipe σ2 vs = wipe σ vs ∧ tt σ2 H2 fun b H3 =>
        if b = true then tk σ2 H3 fun y H4 => tv σ2 H4 fun z H5 => ∃ kvs k, y = kV k ∧ H5 D = some (.dK kvs) ∧ kvs.length < sizeLine ∧ Nx (upd H5 D (.dK (putK kvs k z))) else Nx H3) := by
  refine ⟨fun i m H => m = n - i ∧ i ≤ n ∧ Pv i H, ⟨n, by simp, Nat.zero_le _, h0⟩, ?_⟩
  rintro i m H ⟨rfl, hi, p⟩
  have q := hG i H hi p
  by_cases hlt : i < n
  · refine .inr ⟨w.goes i H hlt q, Pv (i + 1), fun H' p' => ⟨n - (i + 1), by omega, rfl, hlt, p'⟩, fun x H' y => hs i x H H' hlt p (w.yields i H x H' hlt q y)⟩
  · have e : i = n := by omega
    subst e
    exact .inl ⟨w.stops H q, hd H p⟩
end
end K56
namespace K56
open PySem PySem.Spec PyProof.Rows L2
/-! ### promises where no repr is running -/
def FnG (P : Program) (w : World) (K : PySem.W.Frag) (mg : Str → Option Value) (base : Heap) (k : Nat) (f : Addr) (sp : Sp) : Prop :=
  ∀ (A : Around) (outer : List Env) (s : Shared) (H : Hp) (us : List Value) (vs : List V) (Q : VK) (E : XK), A.guards = some [] → Room k A → Env0 P w K mg base A outer s H → Vals vs us → sp vs H Q E →
    codeAny (model P w) A (.call (.ref f) ⟨us, []⟩) (CR (L2.CX P w) outer P w H s Q E) s
theorem fn_mkG {P : Program} {w : World} {K : PySem.W.Frag} {mg : Str → Option Value} {base : Heap} {x qual : Str} {pa : Arguments} {bd : List Stmt} {sc : Scope} {dvs : List V} {kws : List (Str × V)} {at_ : He.Defn} {fd : FuncData} {N ps : List Str} {k : Nat} {sp : Sp}
    (F : FunD K x qual pa bd sc dvs kws (He.fAd K at_) fd) (hb : Binds K fd ps []) (S : FnScope N ps sc) (len : ∀ vs H Q E, sp vs H Q E → vs.length = ps.length)
    (hbody : ∀ (cdv : Value) (A : Around) (outer : List Env) (s : Shared) (H : Hp) (vs : List V) (Q : VK) (E : XK), cdv = .ref (He.cT K at_).1 → (A.deeper (envOfC qual sc s.heap.objs.size (He.fAd K at_) cdv)).guards = some [] → Room k (A.deeper (envOfC qual sc s.heap.objs.size (He.fAd K at_) cdv)) → sp vs H Q E →
      ∃ t, PSs (cxOf (L2.CX P w) P w K mg base N qual sc (He.fAd K at_) cdv A outer s H E) bd t ∧ t { nx := fun _ H' => Q .non H', rt := Q } (start N vs) H) : FnG P w K mg base (k + 1) (He.fAd K at_) sp := by
  obtain ⟨oc, od, dV, kV, doc, pm, an, cdv, ct, osl, rfl, lk, hcd, _, _⟩ := F.ex
  intro A outer s H us vs Q E hg hr e0 r hs
  have hl : us.length = ps.length := by rw [← r.length]; exact len _ _ _ _ hs
  obtain ⟨c, rfl⟩ := He.codeIn_ref hcd
  have hc : He.codeOf K at_ = c := He.codeOf_eq lk rfl
  have hB := hb s us (e0.mod.kin.keeps fun b o e => (e0.bs b o e).1) (by rw [List.append_nil]; exact hl)
  rw [List.append_nil] at hB
  exact LamX.run_ofS (N := N) (ps := ps) lk hcd S hr e0 hB r (len _ _ _ _ hs) fun hr' => hbody _ A outer s H vs Q E (by rw [← hc]; rfl) hg hr' hs
section
variable {X : Cx} {k : Nat} {f : Addr} {sp : Sp} {E : XK} {x : Str} {p pos : Pos} {e : Expr} {es : List Expr} {t : TA}
theorem runG {pins : List (Addr × Obj)} {σ : L2.St} {H : Hp} {s : Shared} {Q : VK} {us : List Value} {vs : List V} (F : FnG X.prog X.w X.K X.mg X.base k f sp) (hg : X.A.guards = some []) (hr : Room k X.A) (hx : PassesAt (L2.CX X.prog X.w) X σ E)
    (I : Inv X pins σ H s) (r : Vals vs us) (h : sp vs H Q E) : wpAny (model X.prog X.w) X.A (call (.ref f) us) (EP X pins σ Q) X.xe s := by
  refine wpAny_call (codeAny_mono (F X.A X.stack s H us vs Q E hg hr I.env0 r h) fun r s' hq => ?_)
  cases r with
  | error e => exact hx pins H s e s' I hq
  | ok fl =>
    cases fl with
    | ret u => exact I.after hq
    | next => exact False.elim hq
    | brk => exact False.elim hq
    | cont => exact False.elim hq
theorem pe_clG {E : L2.St → XK} (F : FnG X.prog X.w X.K X.mg X.base k f sp) (hG : X.A.guards = some []) (hr : Room k X.A) (hm : X.mg x = some (.ref f)) (hk : PySem.W.keepIn X.K (.ref f) = true) (hx : ∀ σ, PassesAt (L2.CX X.prog X.w) X σ (E σ))
    (ha : PA X (e :: es) t) (hg : Gl X x := by rfl) (hdb : (x == ("__debug__" : Str)) = false := by decide) (he : starEach (e :: es) X.env = (false, eval e X.env) :: starEach es X.env := by rfl) (hpl : (backTo pos (starEach es X.env)).any (·.1) = false := by rfl) :
    PE X (.Call (.Name x p) (e :: es) [] pos) (tCl sp E t) := by
  refine ⟨fun pins s σ H Q I h => ?_⟩
  refine wpAny_Call_Name_kw (ld_glob I hg hm ?_ hdb)
  refine PySem.W.callWith_K (h₀ := X.base) I.ok.mod.kin hk (thn (ha.run pos pins s σ H _ I h) fun us s1 ⟨vs, H1, I1, r, q⟩ => ⟨I1.kIn, ?_⟩) he hpl
  exact runG F hG hr (hx σ) I1 r q
end
/-! ### small data: its repr fits -/
structure Sm (k n : Nat) (d : PyData) : Prop where
  sh : d.showable = true
  nd : d.hasDict = false
  lv : d.leavesShort 40 = true
  w : d.weight ≤ n
  dp : d.depth ≤ k
structure Sms (k n : Nat) (ds : List PyData) : Prop where
  sh : PyData.showableAll ds = true
  nd : PyData.hasDictAll ds = false
  lv : PyData.leavesShortAll 40 ds = true
  w : PyData.weightAll ds ≤ n
  dp : PyData.depthAll ds ≤ k
theorem Sm.mono {k n k' n' : Nat} {d : PyData} (h : Sm k n d) (hk : k ≤ k') (hn : n ≤ n') : Sm k' n' d := ⟨h.sh, h.nd, h.lv, Nat.le_trans h.w hn, Nat.le_trans h.dp hk⟩
theorem Sms.mono {k n k' n' : Nat} {d : List PyData} (h : Sms k n d) (hk : k ≤ k') (hn : n ≤ n') : Sms k' n' d := ⟨h.sh, h.nd, h.lv, Nat.le_trans h.w hn, Nat.le_trans h.dp hk⟩
theorem Sms.nil (k n : Nat) : Sms k n [] := ⟨rfl, rfl, rfl, Nat.zero_le _, Nat.zero_le _⟩
theorem Sms.cons {k n m : Nat} {d : PyData} {ds : List PyData} (h : Sm k n d) (hs : Sms k m ds) : Sms k (n + 1 + m) (d :: ds) := by
  refine ⟨?_, ?_, ?_, ?_, ?_⟩
  · show (d.showable && PyData.showableAll ds) = true
    rw [h.sh, hs.sh]; rfl
  · show (d.hasDict || PyData.hasDictAll ds) = false
    rw [h.nd, hs.nd]; rfl
  · show (d.leavesShort 40 && PyData.leavesShortAll 40 ds) = true
    rw [h.lv, hs.lv]; rfl
  · show d.weight + 1 + PyData.weightAll ds ≤ n + 1 + m
    have := h.w
    have := hs.w
    omega
  · show max d.depth (PyData.depthAll ds) ≤ k
    exact Nat.max_le.mpr ⟨h.dp, hs.dp⟩
theorem Sms.lst {k n : Nat} {ds : List PyData} (h : Sms k n ds) : Sm (k + 1) n (.list ds) := ⟨h.sh, h.nd, h.lv, h.w, Nat.succ_le_succ h.dp⟩
theorem Sms.tup {k n : Nat} {ds : List PyData} (h : Sms k n ds) : Sm (k + 1) n (.tuple ds) := ⟨h.sh, h.nd, h.lv, h.w, Nat.succ_le_succ h.dp⟩
theorem Sms.all {k n : Nat} : ∀ {ds : List PyData}, (∀ d ∈ ds, Sm k n d) → Sms k (ds.length * (n + 1)) ds
  | [], _ => .nil _ _
  | d :: ds, h => by
    have := Sms.cons (h d (List.mem_cons_self ..)) (Sms.all (ds := ds) fun x hx => h x (List.mem_cons_of_mem _ hx))
    rw [List.length_cons, Nat.succ_mul, Nat.add_comm]
    exact this
theorem Sm.non {k n : Nat} : Sm k n .none := ⟨rfl, rfl, rfl, Nat.zero_le _, Nat.zero_le _⟩
theorem Sm.bl {k n : Nat} (b : Bool) : Sm k n (.bool b) := ⟨rfl, rfl, rfl, Nat.zero_le _, Nat.zero_le _⟩
theorem Sm.int {k : Nat} {i : Int} (h1 : -(10 ^ 31) < i) (h2 : i < 10 ^ 31) : Sm k 104 (.int i) := by
  have hn : i.natAbs < 10 ^ 31 := by omega
  have hl : i.natAbs.log2 < 104 := by
    by_cases z : i.natAbs = 0
    · rw [z]; decide
    · exact (Nat.log2_lt z).mpr (Nat.lt_trans hn (by decide))
  refine ⟨?_, rfl, ?_, ?_, Nat.zero_le _⟩
  · show decide (i.natAbs.log2 < 1920) = true
    exact decide_eq_true (by omega)
  · show decide ((PyData.shown (.int i)).length ≤ 40) = true
    refine decide_eq_true ?_
    have e := int_text_length_le10 (k := 31) (by decide) hn
    show (Str.ofString (toString i)).length ≤ 40
    rw [PySem.ofString_length]
    omega
  · show (if i == 0 then 0 else i.natAbs.log2 + 1) ≤ 104
    split <;> omega
theorem Sm.str {k n : Nat} {x : Str} (h : (PyData.leavesShort 40 (.str x) && decide (x.cps.size ≤ n)) = true) : Sm k n (.str x) := by
  obtain ⟨h1, h2⟩ := Bool.and_eq_true_iff.mp h
  exact ⟨rfl, rfl, h1, of_decide_eq_true h2, Nat.zero_le _⟩
theorem Sm.shown {n : Nat} {d : PyData} (h : Sm 60 n d) (hn : n ≤ 300000) : d.showable = true ∧ d.hasDict = false ∧ d.depth ≤ 60 ∧ d.shown.length ≤ sizeLine := by
  refine ⟨h.sh, h.nd, h.dp, ?_⟩
  have h1 := PyData.shown_le 40 (by decide) d h.lv
  have h2 := h.w
  rw [sizeLine_eq]
  omega
/-! ### rules within a comprehension: the written part told -/
theorem ix_listK {X : Cx} {K : PySem.W.Frag} (h : X.K = K := by rfl) : IxR X (rIxL K) := by
  subst h
  exact ix_list
theorem ix_tupK {X : Cx} {K : PySem.W.Frag} (h : X.K = K := by rfl) : IxR X (rIxT K) := by
  subst h
  exact ix_tup
theorem op_in_seqK {X : Cx} {K : PySem.W.Frag} (h : X.K = K := by rfl) : OpR X (compareOp .In) (rIn K false) := by
  subst h
  exact op_in_seq
end K56
namespace K56
open PySem PySem.Spec PyProof.Rows L2 LamX
/-! ### the law's call, no repr running; one table of code objects, at t -/
theorem law_callG {P : Program} {w : World} {K : PySem.W.Frag} {mg mb : Str → Option Value} {k : Nat} {fa a c t : Addr} {sp : Sp} {s : Shared} {vs : List Value} {ns : List Int}
    (KX : K.In s.heap) (hns : s.heap.Ns mainGlobals mg) (hb : s.heap.Ns builtinsNs mb) (hbb : ∀ x : Str, x ≠ "__name__" → mb x = bootBuiltins x) (hlim : s.heap.NoLimit) (hg : s.gens = #[])
    (hT : s.heap.get? t = some { cls := .none, data := .fields #[] }) (nT : K.lookup t = none) (C : PySem.W.CodeHd s.heap c t)
    (hbm : ∃ (bm : Addr) (ob : Obj), mg "__builtins__" = some (.ref bm) ∧ bm ≠ builtinsNs ∧ s.heap.get? bm = some ob ∧ ob.cls = .type "module" ∧ ob.dict = some builtinsNs ∧ ob.data = .plain)
    (ha : s.heap.get? a = some { cls := .type "list", data := .seq vs.toArray }) (hi : IntsAre vs ns) (hl : ns.length ≤ sizeLine) (hr : Room k callerA)
    (F : ∀ base : Heap, K.In base → base.Ns mainGlobals mg → TabB base mg c t → FnG P w K mg base k fa sp)
    (hsp : ∀ H : Hp, H t = some (.tbl #[]) → SqL K H a (ns.map V.int) → sp [.ref a] H (fun v _ => v = .bl true) fun _ _ _ => False) :
    codeAny (model P w) callerA (.call (.ref fa) ⟨[.ref a], []⟩) (fun r s' => r = .ok (.ret (.bool true)) ∧ OldK s.heap s'.heap ∧ s'.os = s.os ∧ AllBare s'.gens) s := by
  have rv := vals_ints hi
  have lenV := hi.length
  have at_ : a ≠ t := fun z => by
    rw [z, hT] at ha
    cases ha
  obtain ⟨H, hHt, hO, hS, ok⟩ : ∃ H : Hp, H t = some (.tbl #[]) ∧ (∀ b, H b = none ∨ b = t ∨ (b = a ∧ K.lookup a = none ∧ ∃ o xs, H b = some (.frz o (.lst xs)))) ∧ SqL K H a (ns.map V.int) ∧ HOk P w H s.heap := by
    cases hk : K.lookup a with
    | some o =>
      have e := KX a o hk
      rw [ha] at e
      cases e
      refine ⟨fun b => if b = t then some (.tbl #[]) else none, if_pos rfl, fun b => ?_, .inr ⟨_, vs.toArray, _, hk, rfl, rfl, rfl, by rw [List.size_toArray, lenV]; exact hl, by simpa using rv⟩, fun b u z => ?_⟩
      · by_cases h : b = t
        · exact .inr (.inl h)
        · exact .inl (if_neg h)
      · by_cases h : b = t
        · subst h
          cases (if_pos rfl).symm.trans z
          exact hT
        · cases (if_neg h).symm.trans z
    | none =>
      refine ⟨fun b => if b = t then some (.tbl #[]) else if b = a then some (.frz { cls := .type "list", data := .seq vs.toArray } (.lst (ns.map V.int))) else none, if_pos rfl, fun b => ?_, .inl (.inr ⟨_, (if_neg at_).trans (if_pos rfl)⟩), fun b u z => ?_⟩
      · by_cases h : b = t
        · exact .inr (.inl h)
        · by_cases h2 : b = a
          · exact .inr (.inr ⟨h2, rfl, _, _, (if_neg h).trans (if_pos h2)⟩)
          · exact .inl ((if_neg h).trans (if_neg h2))
      · by_cases h : b = t
        · subst h
          cases (if_pos rfl).symm.trans z
          exact hT
        · have z1 := (if_neg h).symm.trans z
          by_cases h2 : b = a
          · subst h2
            cases (if_pos rfl).symm.trans z1
            exact ⟨ha, by rw [List.length_map]; exact hl, vs, _, rv, ha⟩
          · cases (if_neg h2).symm.trans z1
  -- what is neither the script nor the table stands out of H
  have off : ∀ {b : Addr} {o : Obj}, s.heap.get? b = some o → (∀ xs n, o.data ≠ .seq xs n) → o.data ≠ .fields #[] → H b = none := fun {b o} e h1 h2 => by
    rcases hO b with z | z | ⟨z, _⟩
    · exact z
    · rw [z, hT] at e
      cases e
      exact absurd rfl h2
    · rw [z, ha] at e
      cases e
      exact absurd rfl (h1 _ _)
  have nsB : ∀ {b : Addr} {m : Str → Option Value}, s.heap.Ns b m → (hidT s.heap H).Ns b m := fun {b m} ⟨o, es, ep, e, d, r⟩ =>
    ⟨o, es, ep, hidT_get e (off e (fun _ _ z => by rw [d] at z; cases z) (fun z => by rw [d] at z; cases z)), d, r⟩
  have KB : K.In (hidT s.heap H) := fun b o e => hidT_get (KX b o e) (by
    rcases hO b with z | z | ⟨z, y, _⟩
    · exact z
    · rw [z, nT] at e; cases e
    · rw [z, y] at e; cases e)
  have TB : TabB (hidT s.heap H) mg c t := by
    refine ⟨?_, ?_, fun z => ?_⟩
    · obtain ⟨o, us, file, tf, flags, tg, inF, text, tt, e1, r1, r2, r3, r⟩ := C
      refine ⟨o, us, file, tf, flags, tg, inF, text, tt, hidT_get e1 (off e1 (fun _ _ z => by rw [r2] at z; cases z) (fun z => ?_)), r1, r2, r3, r⟩
      rw [r2] at z
      cases z
      simp at r3
    · obtain ⟨bm, ob, b1, b2, b3, b4, b5, b6⟩ := hbm
      have n1 : bm ≠ mainGlobals := fun q => by
        obtain ⟨o, es, ep, e, hd, _⟩ := hns
        rw [← q, b3] at e
        cases e
        rw [b6] at hd
        cases hd
      have n2 : bm ≠ t := fun q => by
        rw [q, hT] at b3
        cases b3
        cases b6
      exact ⟨bm, ob, b1, b2, n1, n2, hidT_get b3 (off b3 (fun _ _ z => by rw [b6] at z; cases z) (fun z => by rw [b6] at z; cases z)), b4, b5, b6⟩
    · obtain ⟨o, es, ep, e, hd, _⟩ := hns
      rw [z, hT] at e
      cases e
      cases hd
  have hM : L2.Mod K mg (hidT s.heap H) := ⟨KB, nsB hns, ⟨mb, nsB hb, hbb⟩, let ⟨mc, h1, h2⟩ := hlim; ⟨mc, nsB h1, h2⟩⟩
  have e0 : Env0 P w K mg (hidT s.heap H) callerA [] s H := ⟨rfl, hM, fun b o e => of_hidT e, Nat.le_of_eq (hidT_size _ _), trivial, fun b hb => absurd (show b ∈ ([] : List Addr) from hb) List.not_mem_nil, ok, .of_eq hg⟩
  refine codeAny_mono (F _ KB (nsB hns) TB callerA [] s H [.ref a] [.ref a] _ _ rfl hr e0 (.cons rfl .nil) (hsp H hHt hS)) fun r s' h => ?_
  cases r with
  | error e =>
    obtain ⟨_, _, _, _, _, _, _, _, _, _, _, _, z⟩ := (show L2.CX P w [] H s (fun _ _ _ => False) e s' from h)
    exact z.elim
  | ok fl =>
    cases fl with
    | next => exact False.elim h
    | brk => exact False.elim h
    | cont => exact False.elim h
    | ret u =>
      obtain ⟨v, H', os, bare, un, ok', r', q⟩ := h
      obtain rfl : v = .bl true := q
      obtain rfl : u = Value.bool true := r'
      have stay : ∀ b o, b ≠ t → s.heap.get? b = some o → s'.heap.get? b = some o := fun b o nb e => by
        rcases hO b with z | z | ⟨_, _, ob, xs, z⟩
        · exact un.keep b o e z (fun y => absurd (show b ∈ ([] : List Addr) from y) List.not_mem_nil) List.not_mem_nil
        · exact absurd z nb
        · obtain ⟨e1, _⟩ := ok b _ z
          obtain ⟨e2, _⟩ := ok' b _ (un.frzs b ob _ z)
          rw [e] at e1
          cases e1
          exact e2
      obtain ⟨more, hm⟩ := un.tbls t #[] hHt
      have hm' : s'.heap.get? t = some { cls := .none, data := .fields more } := by
        have y : s'.heap.get? t = some { cls := .none, data := .fields (#[] ++ more) } := ok' t _ hm
        rw [Array.empty_append] at y
        exact y
      refine ⟨rfl, ⟨fun b o e => ?_, fun b o e => ?_⟩, os, bare⟩
      · by_cases hbt : b = t
        · subst hbt
          rw [hT] at e
          cases e
          exact .inr (.inl ⟨(C.tab hT).isCodeTable, rfl, #[], more, rfl, by rw [Array.empty_append]; exact hm'⟩)
        · exact .inl (stay b o hbt e)
      · by_cases hbt : b = t
        · subst hbt
          exact ⟨_, hm'⟩
        · exact ⟨o, stay b o hbt e⟩
end K56
namespace K56
open PySem PySem.Spec PyProof.Rows L2
local macro_rules | `(tactic| walk_at "rd") => `(tactic| repeat (first | (refine ⟨_, rfl, ?_⟩) | (refine ⟨_, _, rfl, rfl, ?_⟩) | (refine ⟨rfl, ?_⟩) | (refine ⟨_, (by assumption : _ = some (HO.tup _)), ?_⟩) | (refine ⟨_, _, _, _, rfl, rfl, SqT.of (by assumption), rfl, ?_⟩) | (refine ⟨_, _, _, _, rfl, rfl, SqL.of (by assumption), rfl, ?_⟩) | (refine ⟨_, _, rfl, .inr (SqT.of (by assumption)), ?_⟩) | (refine ⟨_, _, rfl, .inl (SqL.of (by assumption)), ?_⟩) | (refine ⟨_, _, rfl, SqT.of (by assumption), rfl, ?_⟩) | (refine ⟨_, _, _, _, _, rfl, (by assumption : _ = some (HO.ins _ _ _)), Tx.cls (by assumption) _ (by decide +kernel), Tx.noat (by assumption) _ _ (by decide +kernel), rfl, ?_⟩) | (refine ⟨_, _, _, rfl, (by assumption : _ = some (HO.ins _ _ _)), _, _, rfl, (by assumption : ClAt _ _ _ _), ?_⟩) | (refine ⟨_, _, _, _, rfl, (by assumption : _ = some (HO.ins _ _ _)), Tx.cls (by assumption) _ (by decide +kernel), Tx.noat (by assumption) _ _ (by decide +kernel), Nat.le_of_ble_eq_true rfl, ?_⟩) | (refine ⟨_, _, rfl, SqT.of (by assumption), ?_⟩) | (refine ⟨_, _, rfl, SqL.of (by assumption), ?_⟩) | (refine ⟨_, _, rfl, ?_⟩) | (refine ⟨_, _, _, rfl, (by assumption : _ = some (HO.ins _ _ _)), ?_⟩) | (refine ⟨_, _, _, rfl, (by assumption : _ = some (HO.tup _)), ?_⟩) | (refine ⟨_, _, _, rfl, (by assumption : ClAt _ _ _ _), ?_⟩) | (refine ⟨_, _, _, _, _, rfl, (by assumption : ClAt _ _ _ _), (by assumption : _ = some (HO.tup _)), ?_⟩) | (refine ⟨.inl ⟨rfl, _, SqL.of (by assumption)⟩, ?_⟩) | (refine ⟨⟨_, SqL.of (by assumption)⟩, ?_⟩) | (refine ⟨⟨_, SqT.of (by assumption)⟩, ?_⟩) | (with_reducible refine ite_t ?kc ?kg; (case kc => simp; done)) | (with_reducible refine ite_f ?kc ?kg; (case kc => simp; done))))
local macro_rules | `(tactic| walk_at "sc") => `(tactic| exact ⟨rfl, rfl, rfl, by decide +kernel, rfl, by decide +kernel, by decide +kernel⟩)
section
variable {w : World} {K : PySem.W.Frag} {mg : Str → Option Value} {base : Heap}
def sp_is_integer : Sp := fun vs H Q _ => ∃ i : Int, vs = [.int i] ∧ Q (.bl true) H
theorem sc_is_integer : FnScope ["value"] ["value"] (defScope s_is_integer) := by walk_at "sc"
theorem ok_is_integer (T : Tx w K mg) : Fn PG w K mg base 1 (ga K "is_integer") sp_is_integer := by
  obtain ⟨fd, F⟩ := T.fn _ m_is_integer
  refine fn_mk F (F.bindsN fun _ _ _ _ _ _ us hl => match us, hl with | [_], _ => rfl) sc_is_integer (fun vs H Q E h => by obtain ⟨i, rfl, q⟩ := h; rfl) ?_
  intro cdv A outer s H vs Q E hr h
  refine ⟨_, PSs.nox (pss_one (ps_ret (pe_and (pe_callB call_isiI rfl (T.f "isinstance") (by decide +kernel) (pa_cons (pv 0) (pa_cons (pe_tyN "int" T) pa_nil))) (pe_one (pe_not (pe_callB call_isiB rfl (T.f "isinstance") (by decide +kernel) (pa_cons (pv 0) (pa_cons (pe_tyN "bool" T) pa_nil)))))))), ?_⟩
  obtain ⟨i, rfl, q⟩ := h
  walk_at "rd"
  exact q
def sp_is_between : Sp := fun vs H Q _ => ∃ v a b : Int, vs = [.int v, .int a, .int b] ∧ Q (.bl (decide (a ≤ v ∧ v ≤ b))) H
theorem sc_is_between : FnScope ["value", "least", "most"] ["value", "least", "most"] (defScope s_is_between) := by walk_at "sc"
theorem ok_is_between (T : Tx w K mg) : Fn PG w K mg base 2 (ga K "is_between") sp_is_between := by
  obtain ⟨fd, F⟩ := T.fn _ m_is_between
  refine fn_mk F (F.bindsN fun _ _ _ _ _ _ us hl => match us, hl with | [_, _, _], _ => rfl) sc_is_between (fun vs H Q E h => by obtain ⟨v, a, b, rfl, q⟩ := h; rfl) ?_
  intro cdv A outer s H vs Q E hr h
  refine ⟨_, PSs.nox (pss_one (ps_ret (pe_and (pe_cl (ok_is_integer T) (hr.mono (by decide)) (T.g "is_integer") (T.kp _ m_is_integer) (fun _ => pas0) (pa_cons (pv 0) pa_nil)) (pe_one (pe_chain op_le op_le (pv 1) (pv 0) (pv 2)))))), ?_⟩
  obtain ⟨v, a, b, rfl, q⟩ := h
  walk_at "rd"
  refine ite_d (fun h1 => ?_) (fun h1 => ?_)
  · walk_at "rd"
    show Q (.bl (decide (v ≤ b))) H
    have e : decide (a ≤ v ∧ v ≤ b) = decide (v ≤ b) := decide_eq_decide.mpr ⟨fun h => h.2, fun h => ⟨h1, h⟩⟩
    rw [e] at q
    exact q
  · rw [decide_eq_false (fun h => h1 h.1)] at q
    exact q
def sp_is_band : Sp := fun vs H Q _ => ∃ (a : Addr) (lo hi : Int), vs = [.ref a] ∧ BdAt H a lo hi ∧ (-3 ≤ lo ∧ lo ≤ hi ∧ hi ≤ 3) ∧ Q (.bl true) H
theorem sc_is_band : FnScope ["value"] ["value"] (defScope s_is_band) := by walk_at "sc"
theorem ok_is_band (T : Tx w K mg) : Fn PG w K mg base 3 (ga K "is_band") sp_is_band := by
  obtain ⟨fd, F⟩ := T.fn _ m_is_band
  refine fn_mk F (F.bindsN fun _ _ _ _ _ _ us hl => match us, hl with | [_], _ => rfl) sc_is_band (fun vs H Q E h => by obtain ⟨a, lo, hi, rfl, hb, hz, q⟩ := h; rfl) ?_
  intro cdv A outer s H vs Q E hr h
  refine ⟨_, PSs.nox (pss_cons (ps_if (PW.pt (pw_or (pt_not (pt_val (pe_callB call_isiTu rfl (T.f "isinstance") (by decide +kernel) (pa_cons (pv 0) (pa_cons (pe_tyN "tuple" T) pa_nil))))) (pw_or1 (pt_cmpR op_ne (pe_callB call_len_seq rfl (T.f "len") (by decide +kernel) (pa_cons (pv 0) pa_nil)) pe_int (nomark _))))) (pss_one (ps_ret pe_bl)) pss_nil)
    (pss_one (ps_ret (pe_and (pe_cl (ok_is_between T) (hr.mono (by decide)) (T.g "is_between") (T.kp _ m_is_between) (fun _ => pas0) (pa_cons (pe_ix ix_tup (pv 0) pe_int (fun _ _ => rfl)) (pa_cons (pe_un un_neg (pe_gI T "MOST_BAND" 3)) (pa_cons (pe_gI T "MOST_BAND" 3) pa_nil)))) (pe_one (pe_cl (ok_is_between T) (hr.mono (by decide)) (T.g "is_between") (T.kp _ m_is_between) (fun _ => pas0) (pa_cons (pe_ix ix_tup (pv 0) pe_int (fun _ _ => rfl)) (pa_cons (pe_ix ix_tup (pv 0) pe_int (fun _ _ => rfl)) (pa_cons (pe_gI T "MOST_BAND" 3) pa_nil))))))))), ?_⟩
  obtain ⟨a, lo, hi, rfl, hb, hz, q⟩ := h
  walk_at "rd"
  refine ⟨_, _, _, rfl, ?_⟩
  rw [decide_eq_true (show (-3 : Int) ≤ lo ∧ lo ≤ 3 by omega)]
  walk_at "rd"
  refine ⟨_, _, _, rfl, ?_⟩
  rw [decide_eq_true (show lo ≤ hi ∧ hi ≤ 3 by omega)]
  exact q
def sp_check_band : Sp := fun vs H Q _ => ∃ (a : Addr) (lo hi : Int), vs = [.ref a] ∧ BdAt H a lo hi ∧ (-3 ≤ lo ∧ lo ≤ hi ∧ hi ≤ 3) ∧ Q .non H
theorem sc_check_band : FnScope ["band"] ["band"] (defScope s_check_band) := by walk_at "sc"
theorem ok_check_band (T : Tx w K mg) : Fn PG w K mg base 4 (ga K "check_band") sp_check_band := by
  obtain ⟨fd, F⟩ := T.fn _ m_check_band
  refine fn_mk F (F.bindsN fun _ _ _ _ _ _ us hl => match us, hl with | [_], _ => rfl) sc_check_band (fun vs H Q E h => by obtain ⟨a, lo, hi, rfl, hb, hz, q⟩ := h; rfl) ?_
  intro cdv A outer s H vs Q E hr h
  refine ⟨_, PSs.nox (pss_one (ps_if (pt_not (pt_val (pe_cl (ok_is_band T) (hr.mono (by decide)) (T.g "is_band") (T.kp _ m_is_band) (fun _ => pas0) (pa_cons (pv 0) pa_nil)))) (pss_one ps_never) pss_nil)), ?_⟩
  obtain ⟨a, lo, hi, rfl, hb, hz, q⟩ := h
  walk_at "rd"
  refine ⟨hz, ?_⟩
  walk_at "rd"
  exact q
end
end K56
namespace K56
open PySem PySem.Spec PyProof.Rows L2
section
variable {N : Type} [DecidableEq N]
theorem hi_out {steps : List (List Step)} : ∀ (k : Nat) {best out : List OI}, hi steps k best = some out → later steps out = out ∧ out.length = best.length
  | 0, best, out, h => by cases h
  | k + 1, best, out, h => by
    unfold hi at h
    split at h
    · rename_i e
      obtain rfl := Option.some.inj h
      exact ⟨e, rfl⟩
    · obtain ⟨h1, h2⟩ := hi_out k h
      exact ⟨h1, by rw [h2, later_len]⟩
theorem high_ints {ms : List Int} {S : List N} {G : Int} {wb : Wb N} (h : WOk ms S G wb) (hl : wb.steps.length = wb.nodes.length) {best : List OI} (hb : highest wb.steps = some best) : best = (intsOf best).map some ∧ 0 < (intsOf best).length := by
  have hpos := h.pos
  obtain ⟨h1, h2⟩ := hi_out _ hb
  rw [started_len] at h2
  have h0 : (started wb.steps.length)[0]? = some (some 0) := by
    unfold started
    rw [List.getElem?_map, List.getElem?_range (by omega)]
    rfl
  have h3 := hi_keep _ h0 hb
  have key := fix_some h hl h2 h1 h3
  have e := intsOf_map key
  refine ⟨e, ?_⟩
  have := congrArg List.length e
  rw [List.length_map] at this
  omega
/-- what holds of a made web -/
structure WbOk (wb : Wb N) : Prop where
  ok : ∃ ms S G, WOk ms S G wb ∧ wb.steps.length = wb.nodes.length ∧ wb.nodes.length < 600 ∧ ms.length ≤ 3 ∧ (∀ m ∈ ms, -3 ≤ m ∧ m ≤ 3) ∧ G ≤ 84 ∧ 0 ≤ G
theorem wbok_of {aft : N → Int → N × Int} {ms : List Int} {S : List N} (gd : Good aft ms S 84) {x : N} (h : x ∈ S) (hb : Band ms) : WbOk (web aft ms x) := by
  obtain ⟨h1, h2⟩ := web_ok gd h
  exact ⟨ms, S, 84, h1, h2, h1.small gd, hb.len, hb.le, Int.le_refl _, by decide⟩
theorem WbOk.gains {wb : Wb N} (h : WbOk wb) : ∀ st ∈ wb.steps, ∀ s ∈ st, s.1 < wb.steps.length := fun st hst s hs => by
  obtain ⟨ms, S, G, h1, h2, _⟩ := h.ok
  obtain ⟨i, hi, e⟩ := List.mem_iff_getElem.mp hst
  have := h1.st i st (by rw [List.getElem?_eq_getElem hi, e]) s hs
  rw [h2]
  exact this.1
end
def moves (lo hi : Int) : List Int := (List.range (hi + 1 - lo).toNat).map fun i => lo + (i : Nat)
theorem moves_band {lo hi : Int} (h1 : -3 ≤ lo) (h2 : hi ≤ 3) (h3 : hi - lo ≤ 2) : Band (moves lo hi) where
  len := by
    unfold moves
    rw [List.length_map, List.length_range]
    omega
  le := fun m hm => by
    unfold moves at hm
    obtain ⟨i, hi', rfl⟩ := List.mem_map.mp hm
    have := List.mem_range.mp hi'
    omega
end K56
namespace K56
open PySem PySem.Spec PyProof.Rows L2
theorem back_two {orig : List (Option (Nat × Int))} (hd : ∀ (j h : Nat) (m : Int), orig[j]? = some (some (h, m)) → h < j) : ∀ (k k2 p : Nat), p < k → p < k2 → back orig k p = back orig k2 p
  | 0, _, p, h, _ => by omega
  | _ + 1, 0, p, _, h => by omega
  | k + 1, k2 + 1, p, h, h2 => by
    unfold back
    cases e : orig[p]? with
    | none => rfl
    | some o =>
      cases o with
      | none => rfl
      | some q =>
        obtain ⟨a, m⟩ := q
        have ha := hd p a m e
        show m :: back orig k a = m :: back orig k2 a
        rw [back_two hd k k2 a (by omega) (by omega)]
theorem back_step {orig : List (Option (Nat × Int))} (hd : ∀ (j h : Nat) (m : Int), orig[j]? = some (some (h, m)) → h < j) {p h : Nat} {m : Int} (e : orig[p]? = some (some (h, m))) : back orig (p + 1) p = m :: back orig (h + 1) h := by
  have ha := hd p h m e
  have e2 : back orig (p + 1) p = m :: back orig p h := by
    show (match orig[p]? with | some (some (h, m)) => m :: back orig p h | _ => []) = _
    rw [e]
  rw [e2, back_two hd p (h + 1) h ha (Nat.lt_succ_self _)]
theorem back_stop {orig : List (Option (Nat × Int))} {p : Nat} (e : orig[p]? = some none) : back orig (p + 1) p = [] := by
  show (match orig[p]? with | some (some (h, m)) => m :: back orig p h | _ => []) = _
  rw [e]
end K56
namespace K56
open PySem PySem.Spec PyProof.Rows L2
local macro_rules | `(tactic| walk_at "rd") => `(tactic| repeat (first | (refine ⟨_, rfl, ?_⟩) | (refine ⟨_, _, rfl, rfl, ?_⟩) | (refine ⟨rfl, ?_⟩) | (refine ⟨_, (by assumption : _ = some (HO.tup _)), ?_⟩) | (refine ⟨_, _, _, _, rfl, rfl, SqT.of (by assumption), rfl, ?_⟩) | (refine ⟨_, _, _, _, rfl, rfl, SqL.of (by assumption), rfl, ?_⟩) | (refine ⟨_, _, rfl, .inr (SqT.of (by assumption)), ?_⟩) | (refine ⟨_, _, rfl, .inl (SqL.of (by assumption)), ?_⟩) | (refine ⟨_, _, rfl, SqT.of (by assumption), rfl, ?_⟩) | (refine ⟨_, _, _, _, _, rfl, (by assumption : _ = some (HO.ins _ _ _)), Tx.cls (by assumption) _ (by decide +kernel), Tx.noat (by assumption) _ _ (by decide +kernel), rfl, ?_⟩) | (refine ⟨_, _, _, rfl, (by assumption : _ = some (HO.ins _ _ _)), _, _, rfl, (by assumption : ClAt _ _ _ _), ?_⟩) | (refine ⟨_, _, _, _, rfl, (by assumption : _ = some (HO.ins _ _ _)), Tx.cls (by assumption) _ (by decide +kernel), Tx.noat (by assumption) _ _ (by decide +kernel), Nat.le_of_ble_eq_true rfl, ?_⟩) | (refine ⟨_, _, rfl, SqT.of (by assumption), ?_⟩) | (refine ⟨_, _, rfl, SqL.of (by assumption), ?_⟩) | (refine ⟨_, _, rfl, ?_⟩) | (refine ⟨_, _, _, rfl, (by assumption : _ = some (HO.ins _ _ _)), ?_⟩) | (refine ⟨_, _, _, rfl, (by assumption : _ = some (HO.tup _)), ?_⟩) | (refine ⟨_, _, _, rfl, (by assumption : ClAt _ _ _ _), ?_⟩) | (refine ⟨_, _, _, _, _, rfl, (by assumption : ClAt _ _ _ _), (by assumption : _ = some (HO.tup _)), ?_⟩) | (refine ⟨.inl ⟨rfl, _, SqL.of (by assumption)⟩, ?_⟩) | (refine ⟨⟨_, SqL.of (by assumption)⟩, ?_⟩) | (refine ⟨⟨_, SqT.of (by assumption)⟩, ?_⟩) | (with_reducible refine ite_t ?kc ?kg; (case kc => simp; done)) | (with_reducible refine ite_f ?kc ?kg; (case kc => simp; done))))
local macro_rules | `(tactic| walk_at "sc") => `(tactic| exact ⟨rfl, rfl, rfl, by decide +kernel, rfl, by decide +kernel, by decide +kernel⟩)
section
variable {w : World} {K : PySem.W.Frag} {mg : Str → Option Value} {base : Heap}
def sp_moves_of : Sp := fun vs H Q _ => ∃ (a : Addr) (lo hi : Int), vs = [.ref a] ∧ BdAt H a lo hi ∧ (-3 ≤ lo ∧ lo ≤ hi ∧ hi ≤ 3) ∧ ∀ q, H q = none → Q (.ref q) (upd H q (.lst ((moves lo hi).map V.int)))
theorem rgV_moves (lo hi : Int) : rgV lo (hi + 1) = (moves lo hi).map V.int := by
  unfold rgV moves
  rw [List.map_map]
  rfl
theorem sc_moves_of : FnScope ["band"] ["band"] (defScope s_moves_of) := by walk_at "sc"
theorem ok_moves_of (T : Tx w K mg) : Fn PG w K mg base 1 (ga K "moves_of") sp_moves_of := by
  obtain ⟨fd, F⟩ := T.fn _ m_moves_of
  refine fn_mk F (F.bindsN fun _ _ _ _ _ _ us hl => match us, hl with | [_], _ => rfl) sc_moves_of (fun vs H Q E h => by obtain ⟨a, lo, hi, rfl, hb, hz, q⟩ := h; rfl) ?_
  intro cdv A outer s H vs Q E hr h
  refine ⟨_, PSs.nox (pss_one (ps_ret (pe_listRg rfl rfl (T.f "list") (prg_2 rfl (T.f "range") (pe_ix ix_tup (pv 0) pe_int (fun _ _ => rfl)) (pe_op op_add (pe_ix ix_tup (pv 0) pe_int (fun _ _ => rfl)) pe_int))))), ?_⟩
  obtain ⟨a, lo, hi, rfl, hb, hz, q⟩ := h
  walk_at "rd"
  refine ⟨⟨by omega, by omega, by omega, by omega, by omega⟩, fun l hl => ?_⟩
  rw [rgV_moves]
  exact q l hl
def sp_Clause_every (K : PySem.W.Frag) : Sp := fun vs H Q _ => ∃ (a : Addr) (p : Pt), vs = [.ref a] ∧ ClAt K H a p ∧ Q (.int p.every) H
def sp_Clause_rate (K : PySem.W.Frag) : Sp := fun vs H Q _ => ∃ (a : Addr) (p : Pt), vs = [.ref a] ∧ ClAt K H a p ∧ Q (.int p.rate) H
def sp_Clause_floor (K : PySem.W.Frag) : Sp := fun vs H Q _ => ∃ (a : Addr) (p : Pt), vs = [.ref a] ∧ ClAt K H a p ∧ Q (ov p.low) H
def sp_Clause_ceiling (K : PySem.W.Frag) : Sp := fun vs H Q _ => ∃ (a : Addr) (p : Pt), vs = [.ref a] ∧ ClAt K H a p ∧ Q (ov p.top) H
def sp_Clause_keep (K : PySem.W.Frag) : Sp := fun vs H Q _ => ∃ (a : Addr) (p : Pt), vs = [.ref a] ∧ ClAt K H a p ∧ Q (.int p.keep) H
def sp_Clause_plus (K : PySem.W.Frag) : Sp := fun vs H Q _ => ∃ (a : Addr) (p : Pt), vs = [.ref a] ∧ ClAt K H a p ∧ Q (.int p.plus) H
def sp_Clause_begun (K : PySem.W.Frag) : Sp := fun vs H Q _ => ∃ (a : Addr) (p : Pt), vs = [.ref a] ∧ ClAt K H a p ∧ ∀ q, H q = none → Q (.ref q) (upd H q (.tup (sdV (begun p))))
theorem sc_Clause_every : FnScope ["self"] ["self"] (defScope s_Clause_every) := by walk_at "sc"
theorem ok_Clause_every (T : Tx w K mg) : Fn PG w K mg base 1 (pgA K "Clause" "every") (sp_Clause_every K) := by
  obtain ⟨fd, F⟩ := T.gt _ mg_Clause_every
  refine fn_mk F (F.bindsN fun _ _ _ _ _ _ us hl => match us, hl with | [_], _ => rfl) sc_Clause_every (fun vs H Q E h => by obtain ⟨a, p, rfl, ⟨dx, t, hc, ht⟩, q⟩ := h; rfl) ?_
  intro cdv A outer s H vs Q E hr h
  refine ⟨_, PSs.nox (pss_one (ps_ret (pe_ix ix_tup (pe_fld (pv 0) rfl) pe_int (fun _ _ => rfl)))), ?_⟩
  obtain ⟨a, p, rfl, ⟨dx, t, hc, ht⟩, q⟩ := h
  walk_at "rd"
  exact q
theorem sc_Clause_rate : FnScope ["self"] ["self"] (defScope s_Clause_rate) := by walk_at "sc"
theorem ok_Clause_rate (T : Tx w K mg) : Fn PG w K mg base 1 (pgA K "Clause" "rate") (sp_Clause_rate K) := by
  obtain ⟨fd, F⟩ := T.gt _ mg_Clause_rate
  refine fn_mk F (F.bindsN fun _ _ _ _ _ _ us hl => match us, hl with | [_], _ => rfl) sc_Clause_rate (fun vs H Q E h => by obtain ⟨a, p, rfl, ⟨dx, t, hc, ht⟩, q⟩ := h; rfl) ?_
  intro cdv A outer s H vs Q E hr h
  refine ⟨_, PSs.nox (pss_one (ps_ret (pe_ix ix_tup (pe_fld (pv 0) rfl) pe_int (fun _ _ => rfl)))), ?_⟩
  obtain ⟨a, p, rfl, ⟨dx, t, hc, ht⟩, q⟩ := h
  walk_at "rd"
  exact q
theorem sc_Clause_floor : FnScope ["self"] ["self"] (defScope s_Clause_floor) := by walk_at "sc"
theorem ok_Clause_floor (T : Tx w K mg) : Fn PG w K mg base 1 (pgA K "Clause" "floor") (sp_Clause_floor K) := by
  obtain ⟨fd, F⟩ := T.gt _ mg_Clause_floor
  refine fn_mk F (F.bindsN fun _ _ _ _ _ _ us hl => match us, hl with | [_], _ => rfl) sc_Clause_floor (fun vs H Q E h => by obtain ⟨a, p, rfl, ⟨dx, t, hc, ht⟩, q⟩ := h; rfl) ?_
  intro cdv A outer s H vs Q E hr h
  refine ⟨_, PSs.nox (pss_one (ps_ret (pe_ix ix_tup (pe_fld (pv 0) rfl) pe_int (fun _ _ => rfl)))), ?_⟩
  obtain ⟨a, p, rfl, ⟨dx, t, hc, ht⟩, q⟩ := h
  walk_at "rd"
  exact q
theorem sc_Clause_ceiling : FnScope ["self"] ["self"] (defScope s_Clause_ceiling) := by walk_at "sc"
theorem ok_Clause_ceiling (T : Tx w K mg) : Fn PG w K mg base 1 (pgA K "Clause" "ceiling") (sp_Clause_ceiling K) := by
  obtain ⟨fd, F⟩ := T.gt _ mg_Clause_ceiling
  refine fn_mk F (F.bindsN fun _ _ _ _ _ _ us hl => match us, hl with | [_], _ => rfl) sc_Clause_ceiling (fun vs H Q E h => by obtain ⟨a, p, rfl, ⟨dx, t, hc, ht⟩, q⟩ := h; rfl) ?_
  intro cdv A outer s H vs Q E hr h
  refine ⟨_, PSs.nox (pss_one (ps_ret (pe_ix ix_tup (pe_fld (pv 0) rfl) pe_int (fun _ _ => rfl)))), ?_⟩
  obtain ⟨a, p, rfl, ⟨dx, t, hc, ht⟩, q⟩ := h
  walk_at "rd"
  exact q
theorem sc_Clause_keep : FnScope ["self"] ["self"] (defScope s_Clause_keep) := by walk_at "sc"
theorem ok_Clause_keep (T : Tx w K mg) : Fn PG w K mg base 1 (pgA K "Clause" "keep") (sp_Clause_keep K) := by
  obtain ⟨fd, F⟩ := T.gt _ mg_Clause_keep
  refine fn_mk F (F.bindsN fun _ _ _ _ _ _ us hl => match us, hl with | [_], _ => rfl) sc_Clause_keep (fun vs H Q E h => by obtain ⟨a, p, rfl, ⟨dx, t, hc, ht⟩, q⟩ := h; rfl) ?_
  intro cdv A outer s H vs Q E hr h
  refine ⟨_, PSs.nox (pss_one (ps_ret (pe_ix ix_tup (pe_fld (pv 0) rfl) pe_int (fun _ _ => rfl)))), ?_⟩
  obtain ⟨a, p, rfl, ⟨dx, t, hc, ht⟩, q⟩ := h
  walk_at "rd"
  exact q
theorem sc_Clause_plus : FnScope ["self"] ["self"] (defScope s_Clause_plus) := by walk_at "sc"
theorem ok_Clause_plus (T : Tx w K mg) : Fn PG w K mg base 1 (pgA K "Clause" "plus") (sp_Clause_plus K) := by
  obtain ⟨fd, F⟩ := T.gt _ mg_Clause_plus
  refine fn_mk F (F.bindsN fun _ _ _ _ _ _ us hl => match us, hl with | [_], _ => rfl) sc_Clause_plus (fun vs H Q E h => by obtain ⟨a, p, rfl, ⟨dx, t, hc, ht⟩, q⟩ := h; rfl) ?_
  intro cdv A outer s H vs Q E hr h
  refine ⟨_, PSs.nox (pss_one (ps_ret (pe_ix ix_tup (pe_fld (pv 0) rfl) pe_int (fun _ _ => rfl)))), ?_⟩
  obtain ⟨a, p, rfl, ⟨dx, t, hc, ht⟩, q⟩ := h
  walk_at "rd"
  exact q
theorem sc_Clause_begun : FnScope ["self"] ["self"] (defScope s_Clause_begun) := by walk_at "sc"
theorem ok_Clause_begun (T : Tx w K mg) : Fn PG w K mg base 1 (pgA K "Clause" "begun") (sp_Clause_begun K) := by
  obtain ⟨fd, F⟩ := T.gt _ mg_Clause_begun
  refine fn_mk F (F.bindsN fun _ _ _ _ _ _ us hl => match us, hl with | [_], _ => rfl) sc_Clause_begun (fun vs H Q E h => by obtain ⟨a, p, rfl, ⟨dx, t, hc, ht⟩, q⟩ := h; rfl) ?_
  intro cdv A outer s H vs Q E hr h
  refine ⟨_, PSs.nox (pss_one (ps_ret (pe_tup (pa_cons (pe_ix ix_tup (pe_fld (pv 0) rfl) pe_int (fun _ _ => rfl)) (pa_cons pe_int (pa_cons pe_int pa_nil)))))), ?_⟩
  obtain ⟨a, p, rfl, ⟨dx, t, hc, ht⟩, q⟩ := h
  walk_at "rd"
  exact ⟨by show 3 ≤ sizeLine; decide, q⟩
def sp_check_clause (K : PySem.W.Frag) : Sp := fun vs H Q _ => ∃ (a : Addr) (p : Pt), vs = [.ref a] ∧ ClAt K H a p ∧ Q .non H
theorem sc_check_clause : FnScope ["clause"] ["clause"] (defScope s_check_clause) := by walk_at "sc"
theorem ok_check_clause (T : Tx w K mg) : Fn PG w K mg base 1 (ga K "check_clause") (sp_check_clause K) := by
  obtain ⟨fd, F⟩ := T.fn _ m_check_clause
  refine fn_mk F (F.bindsN fun _ _ _ _ _ _ us hl => match us, hl with | [_], _ => rfl) sc_check_clause (fun vs H Q E h => by obtain ⟨a, p, rfl, ⟨dx, t, hc, ht⟩, q⟩ := h; rfl) ?_
  intro cdv A outer s H vs Q E hr h
  refine ⟨_, PSs.nox (pss_one (ps_if (pt_not (pt_val (pe_callB (C8.call_isC T.isc) rfl (T.f "isinstance") (by decide +kernel) (pa_cons (pv 0) (pa_cons (pe_gR "Clause" T) pa_nil))))) (pss_one ps_never) pss_nil)), ?_⟩
  obtain ⟨a, p, rfl, ⟨dx, t, hc, ht⟩, q⟩ := h
  walk_at "rd"
  exact q
def sp_raise_of (K : PySem.W.Frag) : Sp := fun vs H Q _ => ∃ (a : Addr) (p : Pt) (n : Int), vs = [.ref a, .int n] ∧ ClAt K H a p ∧ Q (.int (raiseOf p n)) H
theorem raiseOf_n {p : Pt} {w : Int} (h : p.top = none) : raiseOf p w = lowOf p w := by unfold raiseOf; rw [h]
theorem raiseOf_t {p : Pt} {w t : Int} (h : p.top = some t) (c : t < w) : raiseOf p w = t := by unfold raiseOf; rw [h]; exact if_pos c
theorem raiseOf_f {p : Pt} {w t : Int} (h : p.top = some t) (c : ¬ t < w) : raiseOf p w = lowOf p w := by unfold raiseOf; rw [h]; exact if_neg c
theorem lowOf_n {p : Pt} {w : Int} (h : p.low = none) : lowOf p w = w := by unfold lowOf; rw [h]
theorem lowOf_t {p : Pt} {w t : Int} (h : p.low = some t) (c : w < t) : lowOf p w = t := by unfold lowOf; rw [h]; exact if_pos c
theorem lowOf_f {p : Pt} {w t : Int} (h : p.low = some t) (c : ¬ w < t) : lowOf p w = w := by unfold lowOf; rw [h]; exact if_neg c
theorem sc_raise_of : FnScope ["clause", "wanted"] ["clause", "wanted"] (defScope s_raise_of) := by walk_at "sc"
theorem ok_raise_of (T : Tx w K mg) : Fn PG w K mg base 3 (ga K "raise_of") (sp_raise_of K) := by
  obtain ⟨fd, F⟩ := T.fn _ m_raise_of
  refine fn_mk F (F.bindsN fun _ _ _ _ _ _ us hl => match us, hl with | [_, _], _ => rfl) sc_raise_of (fun vs H Q E h => by obtain ⟨a, ⟨ev, fi, ra, low, top, ke, pl⟩, n, rfl, hcl, q⟩ := h; rfl) ?_
  intro cdv A outer s H vs Q E hr h
  refine ⟨_, PSs.nox (pss_cons (ps_if (PW.pt (pw_and (pt_cmpR op_notN (pe_pr (pv 0) (T.cls "Clause" (by decide +kernel)) (T.pr _ mg_Clause_ceiling) (ok_Clause_ceiling T) (hr.mono (by decide))) pe_non (nomark _)) (pw_and1 (pt_cmpR op_gt (pv 1) (pe_pr (pv 0) (T.cls "Clause" (by decide +kernel)) (T.pr _ mg_Clause_ceiling) (ok_Clause_ceiling T) (hr.mono (by decide))) (nomark _))))) (pss_one (ps_ret (pe_pr (pv 0) (T.cls "Clause" (by decide +kernel)) (T.pr _ mg_Clause_ceiling) (ok_Clause_ceiling T) (hr.mono (by decide))))) pss_nil)
    (pss_cons (ps_if (PW.pt (pw_and (pt_cmpR op_notN (pe_pr (pv 0) (T.cls "Clause" (by decide +kernel)) (T.pr _ mg_Clause_floor) (ok_Clause_floor T) (hr.mono (by decide))) pe_non (nomark _)) (pw_and1 (pt_cmpR op_lt (pv 1) (pe_pr (pv 0) (T.cls "Clause" (by decide +kernel)) (T.pr _ mg_Clause_floor) (ok_Clause_floor T) (hr.mono (by decide))) (nomark _))))) (pss_one (ps_ret (pe_pr (pv 0) (T.cls "Clause" (by decide +kernel)) (T.pr _ mg_Clause_floor) (ok_Clause_floor T) (hr.mono (by decide))))) pss_nil)
    (pss_one (ps_ret (pv 1))))), ?_⟩
  obtain ⟨a, ⟨ev, fi, ra, low, top, ke, pl⟩, n, rfl, hcl, q⟩ := h
  obtain ⟨dx, t, hc, ht⟩ := id hcl
  cases top with
  | none =>
    rw [raiseOf_n rfl] at q
    cases low with
    | none =>
      rw [lowOf_n rfl] at q
      walk_at "rd"
      exact q
    | some f =>
      walk_at "rd"
      refine ite_d (fun c => ?_) (fun c => ?_)
      · rw [lowOf_t rfl c] at q
        walk_at "rd"
        exact q
      · rw [lowOf_f rfl c] at q
        walk_at "rd"
        exact q
  | some tp =>
    walk_at "rd"
    refine ite_d (fun c => ?_) (fun c => ?_)
    · rw [raiseOf_t rfl c] at q
      walk_at "rd"
      exact q
    · rw [raiseOf_f rfl c] at q
      cases low with
      | none =>
        rw [lowOf_n rfl] at q
        walk_at "rd"
        exact q
      | some f =>
        walk_at "rd"
        refine ite_d (fun c => ?_) (fun c => ?_)
        · rw [lowOf_t rfl c] at q
          walk_at "rd"
          exact q
        · rw [lowOf_f rfl c] at q
          walk_at "rd"
          exact q
end
end K56
namespace K56
open PySem PySem.Spec PyProof.Rows L2
local macro_rules | `(tactic| walk_at "rd") => `(tactic| repeat (first | (refine ⟨_, rfl, ?_⟩) | (refine ⟨_, _, rfl, rfl, ?_⟩) | (refine ⟨rfl, ?_⟩) | (refine ⟨_, (by assumption : _ = some (HO.tup _)), ?_⟩) | (refine ⟨_, _, _, _, rfl, rfl, SqT.of (by assumption), rfl, ?_⟩) | (refine ⟨_, _, _, _, rfl, rfl, SqL.of (by assumption), rfl, ?_⟩) | (refine ⟨_, _, rfl, .inr (SqT.of (by assumption)), ?_⟩) | (refine ⟨_, _, rfl, .inl (SqL.of (by assumption)), ?_⟩) | (refine ⟨_, _, rfl, SqT.of (by assumption), rfl, ?_⟩) | (refine ⟨_, _, _, _, _, rfl, (by assumption : _ = some (HO.ins _ _ _)), Tx.cls (by assumption) _ (by decide +kernel), Tx.noat (by assumption) _ _ (by decide +kernel), rfl, ?_⟩) | (refine ⟨_, _, _, rfl, (by assumption : _ = some (HO.ins _ _ _)), _, _, rfl, (by assumption : ClAt _ _ _ _), ?_⟩) | (refine ⟨_, _, _, _, rfl, (by assumption : _ = some (HO.ins _ _ _)), Tx.cls (by assumption) _ (by decide +kernel), Tx.noat (by assumption) _ _ (by decide +kernel), Nat.le_of_ble_eq_true rfl, ?_⟩) | (refine ⟨_, _, rfl, SqT.of (by assumption), ?_⟩) | (refine ⟨_, _, rfl, SqL.of (by assumption), ?_⟩) | (refine ⟨_, _, rfl, ?_⟩) | (refine ⟨_, _, _, rfl, (by assumption : _ = some (HO.ins _ _ _)), ?_⟩) | (refine ⟨_, _, _, rfl, (by assumption : _ = some (HO.tup _)), ?_⟩) | (refine ⟨_, _, _, rfl, (by assumption : ClAt _ _ _ _), ?_⟩) | (refine ⟨_, _, _, _, _, rfl, (by assumption : ClAt _ _ _ _), (by assumption : _ = some (HO.tup _)), ?_⟩) | (refine ⟨.inl ⟨rfl, _, SqL.of (by assumption)⟩, ?_⟩) | (refine ⟨⟨_, SqL.of (by assumption)⟩, ?_⟩) | (refine ⟨⟨_, SqT.of (by assumption)⟩, ?_⟩) | (with_reducible refine ite_t ?kc ?kg; (case kc => simp; done)) | (with_reducible refine ite_f ?kc ?kg; (case kc => simp; done))))
local macro_rules | `(tactic| walk_at "sc") => `(tactic| exact ⟨rfl, rfl, rfl, by decide +kernel, rfl, by decide +kernel, by decide +kernel⟩)
section
variable {w : World} {K : PySem.W.Frag} {mg : Str → Option Value} {base : Heap}
theorem behind_go {p : Pt} {s : Sd} {m : Int} (h : 1 < s.1) : behind p s m = ((s.1 - 1, s.2.1 + m, s.2.2), 0) := if_pos h
theorem behind_new {p : Pt} {s : Sd} {m : Int} (h : ¬ 1 < s.1) : behind p s m = ((p.every, 0, mn p.keep (mx 0 (p.rate * (s.2.1 + m) + s.2.2 - raiseOf p (p.rate * (s.2.1 + m) + s.2.2)))), raiseOf p (p.rate * (s.2.1 + m) + s.2.2) + p.plus) := if_neg h
def sp_behind (K : PySem.W.Frag) : Sp := fun vs H Q _ => ∃ (c s : Addr) (p : Pt) (sd : Sd) (m : Int), vs = [.ref c, .ref s, .int m] ∧ ClAt K H c p ∧ StAt H s sd ∧ (0 ≤ p.rate ∧ p.rate ≤ 5) ∧
  ∀ H' r s', Same H H' → StAt H' s' (behind p sd m).1 → H' r = some (.tup [.ref s', .int (behind p sd m).2]) → Q (.ref r) H'
theorem sc_behind : FnScope ["clause", "standing", "move", "left", "points", "kept", "wanted", "rise"] ["clause", "standing", "move"] (defScope s_behind) := by walk_at "sc"
theorem ok_behind (T : Tx w K mg) : Fn PG w K mg base 4 (ga K "behind") (sp_behind K) := by
  obtain ⟨fd, F⟩ := T.fn _ m_behind
  refine fn_mk F (F.bindsN fun _ _ _ _ _ _ us hl => match us, hl with | [_, _, _], _ => rfl) sc_behind (fun vs H Q E h => by obtain ⟨c, s', p, ⟨left, pts, kept⟩, m, rfl, hcl, hs, hb, q⟩ := h; rfl) ?_
  intro cdv A outer s H vs Q E hr h
  refine ⟨_, PSs.nox (pss_cons (ps_asg (pv 1) (pg_tup rfl (pgs_cons (pg_name (i := 3) sc_behind.nd rfl (Or.inl rfl)) (pgs_cons (pg_name (i := 4) sc_behind.nd rfl (Or.inl rfl)) (pgs_cons (pg_name (i := 5) sc_behind.nd rfl (Or.inl rfl)) pgs_nil)))))
    (pss_cons (ps_set (i := 4) sc_behind.nd rfl (Or.inl rfl) (pe_op op_add (pv 4) (pv 2)))
    (pss_cons (ps_if (pt_cmpR op_gt (pv 3) pe_int (nomark _)) (pss_one (ps_ret (pe_tup (pa_cons (pe_tup (pa_cons (pe_op op_sub (pv 3) pe_int) (pa_cons (pv 4) (pa_cons (pv 5) pa_nil)))) (pa_cons pe_int pa_nil))))) pss_nil)
    (pss_cons (ps_set (i := 6) sc_behind.nd rfl (Or.inl rfl) (pe_op op_add (pe_op op_mul (pe_pr (pv 0) (T.cls "Clause" (by decide +kernel)) (T.pr _ mg_Clause_rate) (ok_Clause_rate T) (hr.mono (by decide))) (pv 4)) (pv 5)))
    (pss_cons (ps_set (i := 7) sc_behind.nd rfl (Or.inl rfl) (pe_cl (ok_raise_of T) (hr.mono (by decide)) (T.g "raise_of") (T.kp _ m_raise_of) (fun _ => pas0) (pa_cons (pv 0) (pa_cons (pv 6) pa_nil))))
    (pss_one (ps_ret (pe_tup (pa_cons (pe_tup (pa_cons (pe_pr (pv 0) (T.cls "Clause" (by decide +kernel)) (T.pr _ mg_Clause_every) (ok_Clause_every T) (hr.mono (by decide))) (pa_cons pe_int (pa_cons (pe_callB (call_min2 rfl) rfl (T.f "min") (by decide +kernel) (pa_cons (pe_pr (pv 0) (T.cls "Clause" (by decide +kernel)) (T.pr _ mg_Clause_keep) (ok_Clause_keep T) (hr.mono (by decide))) (pa_cons (pe_callB (call_max2 rfl) rfl (T.f "max") (by decide +kernel) (pa_cons pe_int (pa_cons (pe_op op_sub (pv 6) (pv 7)) pa_nil))) pa_nil))) pa_nil)))) (pa_cons (pe_op op_add (pv 7) (pe_pr (pv 0) (T.cls "Clause" (by decide +kernel)) (T.pr _ mg_Clause_plus) (ok_Clause_plus T) (hr.mono (by decide)))) pa_nil)))))))))), ?_⟩
  obtain ⟨c, s', p, ⟨left, pts, kept⟩, m, rfl, hcl, hs, hb, q⟩ := h
  obtain ⟨dx, t, hc, ht⟩ := id hcl
  walk_at "rd"
  refine ite_d (fun h => ?_) (fun h => ?_)
  · rw [behind_go h] at q
    walk_at "rd"
    refine ⟨by show 3 ≤ sizeLine; decide, fun p1 h1 => ?_⟩
    walk_at "rd"
    refine ⟨by show 2 ≤ sizeLine; decide, fun r h2 => ?_⟩
    exact q _ r p1 ((same_new h1).trans (same_new h2)) (upd_old upd_same h2) upd_same
  · rw [behind_new h] at q
    walk_at "rd"
    refine ⟨.inl ⟨by omega, by omega⟩, ?_⟩
    walk_at "rd"
    refine ⟨by show 3 ≤ sizeLine; decide, fun p1 h1 => ?_⟩
    generalize e1 : upd H p1 _ = H1
    have S1 : Same H H1 := e1 ▸ same_new h1
    have u1 : H1 p1 = _ := e1 ▸ upd_same
    have hcl1 := hcl.mono S1
    obtain ⟨dx1, t1, hc1, ht1⟩ := id hcl1
    walk_at "rd"
    refine ⟨by show 2 ≤ sizeLine; decide, fun r h2 => ?_⟩
    exact q _ r p1 (S1.trans (same_new h2)) (upd_old u1 h2) upd_same
end
end K56
namespace K56
open PySem PySem.Spec PyProof.Rows L2
local macro_rules | `(tactic| walk_at "rd") => `(tactic| repeat (first | (refine ⟨_, rfl, ?_⟩) | (refine ⟨_, _, rfl, rfl, ?_⟩) | (refine ⟨rfl, ?_⟩) | (refine ⟨_, (by assumption : _ = some (HO.tup _)), ?_⟩) | (refine ⟨_, _, _, _, rfl, rfl, SqT.of (by assumption), rfl, ?_⟩) | (refine ⟨_, _, _, _, rfl, rfl, SqL.of (by assumption), rfl, ?_⟩) | (refine ⟨_, _, rfl, .inr (SqT.of (by assumption)), ?_⟩) | (refine ⟨_, _, rfl, .inl (SqL.of (by assumption)), ?_⟩) | (refine ⟨_, _, rfl, SqT.of (by assumption), rfl, ?_⟩) | (refine ⟨_, _, _, _, _, rfl, (by assumption : _ = some (HO.ins _ _ _)), Tx.cls (by assumption) _ (by decide +kernel), Tx.noat (by assumption) _ _ (by decide +kernel), rfl, ?_⟩) | (refine ⟨_, _, _, rfl, (by assumption : _ = some (HO.ins _ _ _)), _, _, rfl, (by assumption : ClAt _ _ _ _), ?_⟩) | (refine ⟨_, _, _, _, rfl, (by assumption : _ = some (HO.ins _ _ _)), Tx.cls (by assumption) _ (by decide +kernel), Tx.noat (by assumption) _ _ (by decide +kernel), Nat.le_of_ble_eq_true rfl, ?_⟩) | (refine ⟨_, _, rfl, SqT.of (by assumption), ?_⟩) | (refine ⟨_, _, rfl, SqL.of (by assumption), ?_⟩) | (refine ⟨_, _, rfl, ?_⟩) | (refine ⟨_, _, _, rfl, (by assumption : _ = some (HO.ins _ _ _)), ?_⟩) | (refine ⟨_, _, _, rfl, (by assumption : _ = some (HO.tup _)), ?_⟩) | (refine ⟨_, _, _, rfl, (by assumption : ClAt _ _ _ _), ?_⟩) | (refine ⟨_, _, _, _, _, rfl, (by assumption : ClAt _ _ _ _), (by assumption : _ = some (HO.tup _)), ?_⟩) | (refine ⟨.inl ⟨rfl, _, SqL.of (by assumption)⟩, ?_⟩) | (refine ⟨⟨_, SqL.of (by assumption)⟩, ?_⟩) | (refine ⟨⟨_, SqT.of (by assumption)⟩, ?_⟩) | (with_reducible refine ite_t ?kc ?kg; (case kc => simp; done)) | (with_reducible refine ite_f ?kc ?kg; (case kc => simp; done))))
local macro_rules | `(tactic| walk_at "sc") => `(tactic| exact ⟨rfl, rfl, rfl, by decide +kernel, rfl, by decide +kernel, by decide +kernel⟩)
section
variable {w : World} {K : PySem.W.Frag} {mg : Str → Option Value} {base : Heap}
def bnd (p : Pt) (k : Nat) : Int × Int := match k with
  | 0 => (1, 3)
  | 1 => (1, p.every)
  | 2 => (0, 5)
  | 3 => (-20, 20)
  | 4 => ((match p.low with | none => -20 | some f => f), 20)
  | 5 => (0, match p.top with | none => 0 | some _ => 6)
  | _ => (-9, 9)
def sp_bounds_of : Sp := fun vs H Q _ => ∃ (t : Addr) (p : Pt) (k : Nat), vs = [.ref t, .int k] ∧ H t = some (.tup (ptV p)) ∧ k < 7 ∧ ∀ q, H q = none → Q (.ref q) (upd H q (.tup [.int (bnd p k).1, .int (bnd p k).2]))
theorem sc_bounds_of : FnScope ["parts", "index"] ["parts", "index"] (defScope s_bounds_of) := by walk_at "sc"
theorem ok_bounds_of (T : Tx w K mg) : Fn PG w K mg base 1 (ga K "bounds_of") sp_bounds_of := by
  obtain ⟨fd, F⟩ := T.fn _ m_bounds_of
  refine fn_mk F (F.bindsN fun _ _ _ _ _ _ us hl => match us, hl with | [_, _], _ => rfl) sc_bounds_of (fun vs H Q E h => by obtain ⟨t, ⟨ev, fi, ra, low, top, ke, pl⟩, k, rfl, ht, hk, q⟩ := h; rfl) ?_
  intro cdv A outer s H vs Q E hr h
  refine ⟨_, PSs.nox (pss_cons (ps_if (pt_cmpR op_eq (pv 1) pe_int (nomark _)) (pss_one (ps_ret (pe_tup (pa_cons pe_int (pa_cons (pe_gI T "MOST_EVERY" 3) pa_nil))))) pss_nil)
    (pss_cons (ps_if (pt_cmpR op_eq (pv 1) pe_int (nomark _)) (pss_one (ps_ret (pe_tup (pa_cons pe_int (pa_cons (pe_ix ix_tup (pv 0) pe_int (fun _ _ => rfl)) pa_nil))))) pss_nil)
    (pss_cons (ps_if (pt_cmpR op_eq (pv 1) pe_int (nomark _)) (pss_one (ps_ret (pe_tup (pa_cons pe_int (pa_cons (pe_gI T "MOST_RATE" 5) pa_nil))))) pss_nil)
    (pss_cons (ps_if (pt_cmpR op_eq (pv 1) pe_int (nomark _)) (pss_one (ps_ret (pe_tup (pa_cons (pe_un un_neg (pe_gI T "MOST_BOUND" 20)) (pa_cons (pe_gI T "MOST_BOUND" 20) pa_nil))))) pss_nil)
    (pss_cons (ps_if (pt_cmpR op_eq (pv 1) pe_int (nomark _)) (pss_one (ps_ret (pe_tup (pa_cons (pe_ifExp (pt_cmpR op_isN (pe_ix ix_tup (pv 0) pe_int (fun _ _ => rfl)) pe_non (nomark _)) (pe_un un_neg (pe_gI T "MOST_BOUND" 20)) (pe_ix ix_tup (pv 0) pe_int (fun _ _ => rfl))) (pa_cons (pe_gI T "MOST_BOUND" 20) pa_nil))))) pss_nil)
    (pss_cons (ps_if (pt_cmpR op_eq (pv 1) pe_int (nomark _)) (pss_one (ps_ret (pe_tup (pa_cons pe_int (pa_cons (pe_ifExp (pt_cmpR op_isN (pe_ix ix_tup (pv 0) pe_int (fun _ _ => rfl)) pe_non (nomark _)) pe_int (pe_gI T "MOST_KEEP" 6)) pa_nil))))) pss_nil)
    (pss_one (ps_ret (pe_tup (pa_cons (pe_un un_neg (pe_gI T "MOST_PLUS" 9)) (pa_cons (pe_gI T "MOST_PLUS" 9) pa_nil))))))))))), ?_⟩
  obtain ⟨t, ⟨ev, fi, ra, low, top, ke, pl⟩, k, rfl, ht, hk, q⟩ := h
  have h7 : k = 0 ∨ k = 1 ∨ k = 2 ∨ k = 3 ∨ k = 4 ∨ k = 5 ∨ k = 6 := by omega
  rcases h7 with rfl | rfl | rfl | rfl | rfl | rfl | rfl
  · walk_at "rd"
    exact ⟨by show 2 ≤ sizeLine; decide, q⟩
  · walk_at "rd"
    exact ⟨by show 2 ≤ sizeLine; decide, q⟩
  · walk_at "rd"
    exact ⟨by show 2 ≤ sizeLine; decide, q⟩
  · walk_at "rd"
    exact ⟨by show 2 ≤ sizeLine; decide, q⟩
  · cases low with
    | none =>
      walk_at "rd"
      exact ⟨by show 2 ≤ sizeLine; decide, q⟩
    | some f =>
      walk_at "rd"
      exact ⟨by show 2 ≤ sizeLine; decide, q⟩
  · cases top with
    | none =>
      walk_at "rd"
      exact ⟨by show 2 ≤ sizeLine; decide, q⟩
    | some f =>
      walk_at "rd"
      exact ⟨by show 2 ≤ sizeLine; decide, q⟩
  · walk_at "rd"
    exact ⟨by show 2 ≤ sizeLine; decide, q⟩
def sp_is_part : Sp := fun vs H Q _ => ∃ (t : Addr) (p : Pt) (k : Nat), vs = [.ref t, .int k] ∧ H t = some (.tup (ptV p)) ∧ Ok p ∧ k < 7 ∧ ∀ H', Same H H' → Q (.bl true) H'
theorem sc_is_part : FnScope ["parts", "index", "least", "most"] ["parts", "index"] (defScope s_is_part) := by walk_at "sc"
theorem ok_is_part (T : Tx w K mg) : Fn PG w K mg base 3 (ga K "is_part") sp_is_part := by
  obtain ⟨fd, F⟩ := T.fn _ m_is_part
  refine fn_mk F (F.bindsN fun _ _ _ _ _ _ us hl => match us, hl with | [_, _], _ => rfl) sc_is_part (fun vs H Q E h => by obtain ⟨t, p, k, rfl, ht, hp, hk, q⟩ := h; rfl) ?_
  intro cdv A outer s H vs Q E hr h
  refine ⟨_, PSs.nox (pss_cons (ps_if (PW.pt (pw_and (pt_cmpR op_in_seq (pv 1) (pe_tup (pa_cons pe_int (pa_cons pe_int pa_nil))) rfl) (pw_and1 (pt_cmpR op_isN (pe_ix ix_tup (pv 0) (pv 1) (fun _ _ => rfl)) pe_non (nomark _))))) (pss_one (ps_ret pe_bl)) pss_nil)
    (pss_cons (ps_asg (pe_cl (ok_bounds_of T) (hr.mono (by decide)) (T.g "bounds_of") (T.kp _ m_bounds_of) (fun _ => pas0) (pa_cons (pv 0) (pa_cons (pv 1) pa_nil))) (pg_tup rfl (pgs_cons (pg_name (i := 2) sc_is_part.nd rfl (Or.inl rfl)) (pgs_cons (pg_name (i := 3) sc_is_part.nd rfl (Or.inl rfl)) pgs_nil))))
    (pss_one (ps_ret (pe_cl (ok_is_between T) (hr.mono (by decide)) (T.g "is_between") (T.kp _ m_is_between) (fun _ => pas0) (pa_cons (pe_ix ix_tup (pv 0) (pv 1) (fun _ _ => rfl)) (pa_cons (pv 2) (pa_cons (pv 3) pa_nil)))))))), ?_⟩
  obtain ⟨t, p, k, rfl, ht, hp, hk, q⟩ := h
  have h7 : k = 0 ∨ k = 1 ∨ k = 2 ∨ k = 3 ∨ k = 4 ∨ k = 5 ∨ k = 6 := by omega
  have b1 := hp.ev; have b2 := hp.fi; have b3 := hp.r0; have b4 := hp.r1; have b5 := hp.k0; have b6 := hp.k1; have b7 := hp.p0; have b8 := hp.p1
  rcases h7 with rfl | rfl | rfl | rfl | rfl | rfl | rfl
  · walk_at "rd"
    refine ⟨by show 2 ≤ sizeLine; decide, fun p1 h1 => ?_⟩
    generalize e1 : upd H p1 _ = H1
    have S1 : Same H H1 := e1 ▸ same_new h1
    have u1 : H1 p1 = _ := e1 ▸ upd_same
    have ht1 := S1 _ _ ht
    walk_at "rd"
    refine ⟨by decide, fun q1 hq1 => ?_⟩
    generalize e2 : upd H1 q1 _ = H2
    have S2 : Same H1 H2 := e2 ▸ same_new hq1
    have u2 : H2 q1 = _ := e2 ▸ upd_same
    have ht2 := S2 _ _ ht1
    walk_at "rd"
    refine ⟨_, _, _, rfl, ?_⟩
    rw [decide_eq_true (show (bnd p 0).1 ≤ p.every ∧ p.every ≤ (bnd p 0).2 from ⟨by show (1:Int) ≤ p.every; omega, by show p.every ≤ 3; omega⟩)]
    exact q _ (S1.trans S2)
  · walk_at "rd"
    refine ⟨by show 2 ≤ sizeLine; decide, fun p1 h1 => ?_⟩
    generalize e1 : upd H p1 _ = H1
    have S1 : Same H H1 := e1 ▸ same_new h1
    have u1 : H1 p1 = _ := e1 ▸ upd_same
    have ht1 := S1 _ _ ht
    walk_at "rd"
    refine ⟨by decide, fun q1 hq1 => ?_⟩
    generalize e2 : upd H1 q1 _ = H2
    have S2 : Same H1 H2 := e2 ▸ same_new hq1
    have u2 : H2 q1 = _ := e2 ▸ upd_same
    have ht2 := S2 _ _ ht1
    walk_at "rd"
    refine ⟨_, _, _, rfl, ?_⟩
    rw [decide_eq_true (show (bnd p 1).1 ≤ p.first ∧ p.first ≤ (bnd p 1).2 from ⟨by show (1:Int) ≤ p.first; omega, by show p.first ≤ p.every; omega⟩)]
    exact q _ (S1.trans S2)
  · walk_at "rd"
    refine ⟨by show 2 ≤ sizeLine; decide, fun p1 h1 => ?_⟩
    generalize e1 : upd H p1 _ = H1
    have S1 : Same H H1 := e1 ▸ same_new h1
    have u1 : H1 p1 = _ := e1 ▸ upd_same
    have ht1 := S1 _ _ ht
    walk_at "rd"
    refine ⟨by decide, fun q1 hq1 => ?_⟩
    generalize e2 : upd H1 q1 _ = H2
    have S2 : Same H1 H2 := e2 ▸ same_new hq1
    have u2 : H2 q1 = _ := e2 ▸ upd_same
    have ht2 := S2 _ _ ht1
    walk_at "rd"
    refine ⟨_, _, _, rfl, ?_⟩
    rw [decide_eq_true (show (bnd p 2).1 ≤ p.rate ∧ p.rate ≤ (bnd p 2).2 from ⟨b3, b4⟩)]
    exact q _ (S1.trans S2)
  · obtain ⟨ev, fi, ra, low, top, ke, pl⟩ := p
    cases low with
    | none =>
      walk_at "rd"
      refine ⟨by show 2 ≤ sizeLine; decide, fun p1 h1 => ?_⟩
      generalize e1 : upd H p1 _ = H1
      have S1 : Same H H1 := e1 ▸ same_new h1
      have u1 : H1 p1 = _ := e1 ▸ upd_same
      have ht1 := S1 _ _ ht
      walk_at "rd"
      exact q _ S1
    | some f =>
      have bl := hp.l0 f rfl
      walk_at "rd"
      refine ⟨by show 2 ≤ sizeLine; decide, fun p1 h1 => ?_⟩
      generalize e1 : upd H p1 _ = H1
      have S1 : Same H H1 := e1 ▸ same_new h1
      have u1 : H1 p1 = _ := e1 ▸ upd_same
      have ht1 := S1 _ _ ht
      walk_at "rd"
      refine ⟨by decide, fun q1 hq1 => ?_⟩
      generalize e2 : upd H1 q1 _ = H2
      have S2 : Same H1 H2 := e2 ▸ same_new hq1
      have u2 : H2 q1 = _ := e2 ▸ upd_same
      have ht2 := S2 _ _ ht1
      walk_at "rd"
      refine ⟨_, _, _, rfl, ?_⟩
      rw [decide_eq_true (show (bnd ⟨ev, fi, ra, some f, top, ke, pl⟩ 3).1 ≤ f ∧ f ≤ (bnd ⟨ev, fi, ra, some f, top, ke, pl⟩ 3).2 from bl)]
      exact q _ (S1.trans S2)
  · obtain ⟨ev, fi, ra, low, top, ke, pl⟩ := p
    cases top with
    | none =>
      walk_at "rd"
      refine ⟨by show 2 ≤ sizeLine; decide, fun p1 h1 => ?_⟩
      generalize e1 : upd H p1 _ = H1
      have S1 : Same H H1 := e1 ▸ same_new h1
      have u1 : H1 p1 = _ := e1 ▸ upd_same
      have ht1 := S1 _ _ ht
      walk_at "rd"
      exact q _ S1
    | some f =>
      have bl := hp.t0 f rfl
      have bb : (bnd ⟨ev, fi, ra, low, some f, ke, pl⟩ 4).1 ≤ f ∧ f ≤ (bnd ⟨ev, fi, ra, low, some f, ke, pl⟩ 4).2 := by
        refine ⟨?_, bl.2⟩
        cases low with
        | none => exact bl.1
        | some g => exact hp.lt g f rfl rfl
      walk_at "rd"
      refine ⟨by show 2 ≤ sizeLine; decide, fun p1 h1 => ?_⟩
      generalize e1 : upd H p1 _ = H1
      have S1 : Same H H1 := e1 ▸ same_new h1
      have u1 : H1 p1 = _ := e1 ▸ upd_same
      have ht1 := S1 _ _ ht
      walk_at "rd"
      refine ⟨by decide, fun q1 hq1 => ?_⟩
      generalize e2 : upd H1 q1 _ = H2
      have S2 : Same H1 H2 := e2 ▸ same_new hq1
      have u2 : H2 q1 = _ := e2 ▸ upd_same
      have ht2 := S2 _ _ ht1
      walk_at "rd"
      refine ⟨_, _, _, rfl, ?_⟩
      rw [decide_eq_true (show (bnd ⟨ev, fi, ra, low, some f, ke, pl⟩ 4).1 ≤ f ∧ f ≤ (bnd ⟨ev, fi, ra, low, some f, ke, pl⟩ 4).2 from bb)]
      exact q _ (S1.trans S2)
  · have bb : (bnd p 5).1 ≤ p.keep ∧ p.keep ≤ (bnd p 5).2 := by
      refine ⟨b5, ?_⟩
      have kt := hp.kt
      show p.keep ≤ (match p.top with | none => 0 | some _ => 6)
      cases e : p.top with
      | none => exact Int.le_of_eq (kt e)
      | some f => show p.keep ≤ 6; omega
    walk_at "rd"
    refine ⟨by show 2 ≤ sizeLine; decide, fun p1 h1 => ?_⟩
    generalize e1 : upd H p1 _ = H1
    have S1 : Same H H1 := e1 ▸ same_new h1
    have u1 : H1 p1 = _ := e1 ▸ upd_same
    have ht1 := S1 _ _ ht
    walk_at "rd"
    refine ⟨by decide, fun q1 hq1 => ?_⟩
    generalize e2 : upd H1 q1 _ = H2
    have S2 : Same H1 H2 := e2 ▸ same_new hq1
    have u2 : H2 q1 = _ := e2 ▸ upd_same
    have ht2 := S2 _ _ ht1
    walk_at "rd"
    refine ⟨_, _, _, rfl, ?_⟩
    rw [decide_eq_true (show (bnd p 5).1 ≤ p.keep ∧ p.keep ≤ (bnd p 5).2 from bb)]
    exact q _ (S1.trans S2)
  · walk_at "rd"
    refine ⟨by show 2 ≤ sizeLine; decide, fun p1 h1 => ?_⟩
    generalize e1 : upd H p1 _ = H1
    have S1 : Same H H1 := e1 ▸ same_new h1
    have u1 : H1 p1 = _ := e1 ▸ upd_same
    have ht1 := S1 _ _ ht
    walk_at "rd"
    refine ⟨by decide, fun q1 hq1 => ?_⟩
    generalize e2 : upd H1 q1 _ = H2
    have S2 : Same H1 H2 := e2 ▸ same_new hq1
    have u2 : H2 q1 = _ := e2 ▸ upd_same
    have ht2 := S2 _ _ ht1
    walk_at "rd"
    refine ⟨_, _, _, rfl, ?_⟩
    rw [decide_eq_true (show (bnd p 6).1 ≤ p.plus ∧ p.plus ≤ (bnd p 6).2 from ⟨b7, b8⟩)]
    exact q _ (S1.trans S2)
end
end K56
namespace K56
open PySem PySem.Spec PyProof.Rows L2
local macro_rules | `(tactic| walk_at "rd") => `(tactic| repeat (first | (refine ⟨_, rfl, ?_⟩) | (refine ⟨_, _, rfl, rfl, ?_⟩) | (refine ⟨rfl, ?_⟩) | (refine ⟨_, (by assumption : _ = some (HO.tup _)), ?_⟩) | (refine ⟨_, _, _, _, rfl, rfl, SqT.of (by assumption), rfl, ?_⟩) | (refine ⟨_, _, _, _, rfl, rfl, SqL.of (by assumption), rfl, ?_⟩) | (refine ⟨_, _, rfl, .inr (SqT.of (by assumption)), ?_⟩) | (refine ⟨_, _, rfl, .inl (SqL.of (by assumption)), ?_⟩) | (refine ⟨_, _, rfl, SqT.of (by assumption), rfl, ?_⟩) | (refine ⟨_, _, _, _, _, rfl, (by assumption : _ = some (HO.ins _ _ _)), Tx.cls (by assumption) _ (by decide +kernel), Tx.noat (by assumption) _ _ (by decide +kernel), rfl, ?_⟩) | (refine ⟨_, _, _, rfl, (by assumption : _ = some (HO.ins _ _ _)), _, _, rfl, (by assumption : ClAt _ _ _ _), ?_⟩) | (refine ⟨_, _, _, _, rfl, (by assumption : _ = some (HO.ins _ _ _)), Tx.cls (by assumption) _ (by decide +kernel), Tx.noat (by assumption) _ _ (by decide +kernel), Nat.le_of_ble_eq_true rfl, ?_⟩) | (refine ⟨_, _, rfl, SqT.of (by assumption), ?_⟩) | (refine ⟨_, _, rfl, SqL.of (by assumption), ?_⟩) | (refine ⟨_, _, rfl, ?_⟩) | (refine ⟨_, _, _, rfl, (by assumption : _ = some (HO.ins _ _ _)), ?_⟩) | (refine ⟨_, _, _, rfl, (by assumption : _ = some (HO.tup _)), ?_⟩) | (refine ⟨_, _, _, rfl, (by assumption : ClAt _ _ _ _), ?_⟩) | (refine ⟨_, _, _, _, _, rfl, (by assumption : ClAt _ _ _ _), (by assumption : _ = some (HO.tup _)), ?_⟩) | (refine ⟨.inl ⟨rfl, _, SqL.of (by assumption)⟩, ?_⟩) | (refine ⟨⟨_, SqL.of (by assumption)⟩, ?_⟩) | (refine ⟨⟨_, SqT.of (by assumption)⟩, ?_⟩) | (with_reducible refine ite_t ?kc ?kg; (case kc => simp; done)) | (with_reducible refine ite_f ?kc ?kg; (case kc => simp; done))))
local macro_rules | `(tactic| walk_at "sc") => `(tactic| exact ⟨rfl, rfl, rfl, by decide +kernel, rfl, by decide +kernel, by decide +kernel⟩)
section
variable {w : World} {K : PySem.W.Frag} {mg : Str → Option Value} {base : Heap}
/-- all but x stands -/
def SameX (x : Addr) (H H' : Hp) : Prop := ∀ b o, b ≠ x → H b = some o → H' b = some o
def sp_Clause_init (K : PySem.W.Frag) : Sp := fun vs H Q _ => ∃ (x dx : Addr) (p : Pt), vs = .ref x :: ptV p ∧ H x = some (.ins (ga K "Clause") dx []) ∧ Ok p ∧
  ∀ H' t, SameX x H H' → H' x = some (.ins (ga K "Clause") dx [("parts", .ref t)]) → H' t = some (.tup (ptV p)) → Q .non H'
theorem sc_Clause_init : FnScope ["self", "every", "first", "rate", "floor", "ceiling", "keep", "plus", "index", "value"] ["self", "every", "first", "rate", "floor", "ceiling", "keep", "plus"] (defScope s_Clause_init) := by walk_at "sc"
theorem ok_Clause_init (T : Tx w K mg) : Fn PG w K mg base 4 (me K "Clause" "__init__") (sp_Clause_init K) := by
  obtain ⟨fd, F⟩ := T.fn _ m_Clause_init
  obtain ⟨ds, rd, hb⟩ := F.binds1 (ps := ["self", "every", "first", "rate", "floor", "ceiling", "keep", "plus"]) 8 4 (by intro z; cases z) rfl (fun Tt kV doc pm an cdv ct us its h1 h2 => match us, h1, its, h2 with | [_, _, _, _, _, _, _, _], _, [_, _, _, _], _ => ⟨_, rfl, rfl⟩)
  cases rd
  refine fn_mk F hb sc_Clause_init (fun vs H Q E h => by obtain ⟨x, dx, p, rfl, hx, hp, q⟩ := h; rfl) ?_
  intro cdv A outer s H vs Q E hr h
  refine ⟨_, PSs.nox (pss_cons (ps_fld (pv 0) (pe_tup (pa_cons (pv 1) (pa_cons (pv 2) (pa_cons (pv 3) (pa_cons (pv 4) (pa_cons (pv 5) (pa_cons (pv 6) (pa_cons (pv 7) pa_nil)))))))) rfl)
    (pss_one (ps_for PassesOwn.never rfl (pi_enumT rfl (T.f "enumerate") (pa_cons (pe_fld (pv 0) rfl) pa_nil)) (pg_tup rfl (pgs_cons (pg_name (i := 8) sc_Clause_init.nd rfl (Or.inl rfl)) (pgs_cons (pg_name (i := 9) sc_Clause_init.nd rfl (Or.inl rfl)) pgs_nil))) (pss_one (ps_if (pt_not (pt_val (pe_cl (ok_is_part T) (hr.mono (by decide)) (T.g "is_part") (T.kp _ m_is_part) (fun _ => pas0) (pa_cons (pe_fld (pv 0) rfl) (pa_cons (pv 8) pa_nil))))) (pss_one ps_never) pss_nil))))), ?_⟩
  obtain ⟨x, dx, p, rfl, hx, hp, q⟩ := h
  walk_at "rd"
  refine ⟨by show 7 ≤ sizeLine; decide, fun t ht => ?_⟩
  generalize e1 : upd H t _ = H1
  have S1 : Same H H1 := e1 ▸ same_new ht
  have u1 : H1 t = _ := e1 ▸ upd_same
  have hx1 := S1 _ _ hx
  walk_at "rd"
  have hw1 : ∀ y, SameX x H (upd H1 x y) := fun y b o hb e => by rw [upd_ne hb]; exact S1 _ _ e
  have hxt : x ≠ t := ne_of hx1 u1 (by intro z; cases z)
  have hnx : ∀ y, upd H1 x y t = some (.tup (ptV p)) := fun y => by rw [upd_ne (Ne.symm hxt)]; exact u1
  generalize e2 : upd H1 x _ = H2
  have W2 : SameX x H H2 := e2 ▸ hw1 _
  have t2 : H2 t = some (.tup (ptV p)) := e2 ▸ hnx _
  have x2 : H2 x = some (.ins (ga K "Clause") dx [("parts", .ref t)]) := e2 ▸ upd_same
  walk_at "rd"
  refine for_it (walk_enumT (xs := ptV p)) (fun i σ H' => ∃ v1 v2, σ = [some (.ref x), some (.int p.every), some (.int p.first), some (.int p.rate), some (ov p.low), some (ov p.top), some (.int p.keep), some (.int p.plus), v1, v2] ∧ Same H2 H') ⟨_, _, rfl, Same.refl _⟩ (fun i σ H' _ h => ?_) (fun i v σ H' H'' hi h hy => ?_) fun σ H' h => ?_
  · obtain ⟨v1, v2, rfl, S⟩ := h
    exact SqT.of (S _ _ t2)
  · obtain ⟨v1, v2, rfl, S⟩ := h
    obtain ⟨Tt, xx, yy, rfl, hT, rfl, e5, e6⟩ := hy
    have e5' := Option.some.inj e5
    subst e5'
    generalize e3 : upd H' Tt _ = H3
    have S3 : Same H2 H3 := S.trans (e3 ▸ same_new hT)
    have u3 : H3 Tt = _ := e3 ▸ upd_same
    have x3 := S3 _ _ x2
    have t3 := S3 _ _ t2
    walk_at "rd"
    refine ⟨hp, hi, fun H4 S4 => ?_⟩
    walk_at "rd"
    exact S3.trans S4
  · obtain ⟨v1, v2, rfl, S⟩ := h
    walk_at "rd"
    exact q _ t (fun b o hb e => S _ _ (W2 b o hb e)) (S _ _ x2) (S _ _ t2)
/-! ### rules: what comes behind a node -/
def sp_Race_init (K : PySem.W.Frag) : Sp := fun vs H Q _ => ∃ (x dx c d : Addr), vs = [.ref x, .ref c, .ref d] ∧ H x = some (.ins (ga K "Race") dx []) ∧ Q .non (upd H x (.ins (ga K "Race") dx [("one", .ref c), ("other", .ref d)]))
theorem sc_Race_init : FnScope ["self", "one", "other"] ["self", "one", "other"] (defScope s_Race_init) := by walk_at "sc"
theorem ok_Race_init (T : Tx w K mg) : Fn PG w K mg base 1 (me K "Race" "__init__") (sp_Race_init K) := by
  obtain ⟨fd, F⟩ := T.fn _ m_Race_init
  refine fn_mk F (F.bindsN fun _ _ _ _ _ _ us hl => match us, hl with | [_, _, _], _ => rfl) sc_Race_init (fun vs H Q E h => by obtain ⟨x, dx, c, d, rfl, hx, q⟩ := h; rfl) ?_
  intro cdv A outer s H vs Q E hr h
  refine ⟨_, PSs.nox (pss_cons (ps_fld (pv 0) (pv 1) rfl)
    (pss_one (ps_fld (pv 0) (pv 2) rfl))), ?_⟩
  obtain ⟨x, dx, c, d, rfl, hx, q⟩ := h
  have u1 : upd H x (.ins (ga K "Race") dx [("one", .ref c)]) x = some (.ins (ga K "Race") dx [("one", .ref c)]) := upd_same
  walk_at "rd"
  show Q .non (upd (upd H x _) x _)
  rw [upd_upd]
  exact q
def sp_Walk_init (K : PySem.W.Frag) : Sp := fun vs H Q _ => ∃ (x dx c : Addr) (n : Int), vs = [.ref x, .ref c, .int n] ∧ H x = some (.ins (ga K "Walk") dx []) ∧ Q .non (upd H x (.ins (ga K "Walk") dx [("rented", .ref c), ("sign", .int n)]))
theorem sc_Walk_init : FnScope ["self", "clause", "sign"] ["self", "clause", "sign"] (defScope s_Walk_init) := by walk_at "sc"
theorem ok_Walk_init (T : Tx w K mg) : Fn PG w K mg base 1 (me K "Walk" "__init__") (sp_Walk_init K) := by
  obtain ⟨fd, F⟩ := T.fn _ m_Walk_init
  refine fn_mk F (F.bindsN fun _ _ _ _ _ _ us hl => match us, hl with | [_, _, _], _ => rfl) sc_Walk_init (fun vs H Q E h => by obtain ⟨x, dx, c, n, rfl, hx, q⟩ := h; rfl) ?_
  intro cdv A outer s H vs Q E hr h
  refine ⟨_, PSs.nox (pss_cons (ps_fld (pv 0) (pv 1) rfl)
    (pss_one (ps_fld (pv 0) (pv 2) rfl))), ?_⟩
  obtain ⟨x, dx, c, n, rfl, hx, q⟩ := h
  have u1 : upd H x (.ins (ga K "Walk") dx [("rented", .ref c)]) x = some (.ins (ga K "Walk") dx [("rented", .ref c)]) := upd_same
  walk_at "rd"
  show Q .non (upd (upd H x _) x _)
  rw [upd_upd]
  exact q
/-- at r: the pair of a node at n' and the int g -/
def StN (H : Hp) (v : V) (s : Sd) : Prop := ∃ a, v = .ref a ∧ StAt H a s
def PrN (H : Hp) (v : V) (s : Sd × Sd) : Prop := ∃ a b c, v = .ref a ∧ H a = some (.tup [.ref b, .ref c]) ∧ StAt H b s.1 ∧ StAt H c s.2
/-- rules.after(node, move), by values: R tells which value is which node -/
def sp_after {N : Type} (R : Hp → V → N → Prop) (rl : Hp → Addr → Prop) (aft : N → Int → N × Int) : Sp := fun vs H Q _ => ∃ (r : Addr) (v : V) (n : N) (m : Int), vs = [.ref r, v, .int m] ∧ rl H r ∧ R H v n ∧
  ∀ H' p v', Same H H' → R H' v' (aft n m).1 → H' p = some (.tup [v', .int (aft n m).2]) → Q (.ref p) H'
def rlRace (K : PySem.W.Frag) (c d : Pt) (H : Hp) (r : Addr) : Prop := ∃ dx a b, H r = some (.ins (ga K "Race") dx [("one", .ref a), ("other", .ref b)]) ∧ ClAt K H a c ∧ ClAt K H b d
def rlWalk (K : PySem.W.Frag) (c : Pt) (sg : Int) (H : Hp) (r : Addr) : Prop := ∃ dx a, H r = some (.ins (ga K "Walk") dx [("rented", .ref a), ("sign", .int sg)]) ∧ ClAt K H a c
theorem StN.mono {H H' : Hp} (e : Same H H') {v : V} {s : Sd} (h : StN H v s) : StN H' v s := by
  obtain ⟨a, rfl, h⟩ := h
  exact ⟨a, rfl, e _ _ h⟩
theorem PrN.mono {H H' : Hp} (e : Same H H') {v : V} {s : Sd × Sd} (h : PrN H v s) : PrN H' v s := by
  obtain ⟨a, b, c, rfl, h1, h2, h3⟩ := h
  exact ⟨a, b, c, rfl, e _ _ h1, e _ _ h2, e _ _ h3⟩
def sp_Race_after (K : PySem.W.Frag) : Sp := fun vs H Q E => ∃ c d, Ok c ∧ Ok d ∧ sp_after PrN (rlRace K c d) (raceAft c d) vs H Q E
def sp_Walk_after (K : PySem.W.Frag) : Sp := fun vs H Q E => ∃ c sg, Ok c ∧ (-(2 ^ 60) < sg ∧ sg < 2 ^ 60) ∧ sp_after StN (rlWalk K c sg) (walkAft c sg) vs H Q E
theorem sc_Race_after : FnScope ["self", "node", "move", "mine", "rise", "theirs", "other_rise"] ["self", "node", "move"] (defScope s_Race_after) := by walk_at "sc"
theorem ok_Race_after (T : Tx w K mg) : Fn PG w K mg base 5 (me K "Race" "after") (sp_Race_after K) := by
  obtain ⟨fd, F⟩ := T.fn _ m_Race_after
  refine fn_mk F (F.bindsN fun _ _ _ _ _ _ us hl => match us, hl with | [_, _, _], _ => rfl) sc_Race_after (fun vs H Q E h => by obtain ⟨c, d, oc, od, r, v, ⟨n1, n2⟩, m, rfl, ⟨dx, a, b, hr0, ha, hb⟩, ⟨nd, n1a, n2a, rfl, hn, hs1, hs2⟩, q⟩ := h; rfl) ?_
  intro cdv A outer s H vs Q E hr h
  refine ⟨_, PSs.nox (pss_cons (ps_asg (pe_cl (ok_behind T) (hr.mono (by decide)) (T.g "behind") (T.kp _ m_behind) (fun _ => pas0) (pa_cons (pe_fld (pv 0) rfl) (pa_cons (pe_ix ix_tup (pv 1) pe_int (fun _ _ => rfl)) (pa_cons (pv 2) pa_nil)))) (pg_tup rfl (pgs_cons (pg_name (i := 3) sc_Race_after.nd rfl (Or.inl rfl)) (pgs_cons (pg_name (i := 4) sc_Race_after.nd rfl (Or.inl rfl)) pgs_nil))))
    (pss_cons (ps_asg (pe_cl (ok_behind T) (hr.mono (by decide)) (T.g "behind") (T.kp _ m_behind) (fun _ => pas0) (pa_cons (pe_fld (pv 0) rfl) (pa_cons (pe_ix ix_tup (pv 1) pe_int (fun _ _ => rfl)) (pa_cons (pv 2) pa_nil)))) (pg_tup rfl (pgs_cons (pg_name (i := 5) sc_Race_after.nd rfl (Or.inl rfl)) (pgs_cons (pg_name (i := 6) sc_Race_after.nd rfl (Or.inl rfl)) pgs_nil))))
    (pss_one (ps_ret (pe_tup (pa_cons (pe_tup (pa_cons (pv 3) (pa_cons (pv 5) pa_nil))) (pa_cons (pe_op op_sub (pv 4) (pv 6)) pa_nil))))))), ?_⟩
  obtain ⟨c, d, oc, od, r, v, ⟨n1, n2⟩, m, rfl, ⟨dx, a, b, hr0, ha, hb⟩, ⟨nd, n1a, n2a, rfl, hn, hs1, hs2⟩, q⟩ := h
  walk_at "rd"
  refine ⟨⟨oc.r0, oc.r1⟩, fun H1 p1 s1 S1 t1 u1 => ?_⟩
  have hb1 := hb.mono S1
  have hs21 := S1 _ _ hs2
  have hn1 := S1 _ _ hn
  have hr1 := S1 _ _ hr0
  walk_at "rd"
  refine ⟨⟨od.r0, od.r1⟩, fun H2 p2 s2 S2 t2 u2 => ?_⟩
  have t1' := S2 _ _ t1
  walk_at "rd"
  refine ⟨by show 2 ≤ sizeLine; decide, fun p3 h3 => ?_⟩
  generalize e3 : upd H2 p3 _ = H3
  have S3 : Same H2 H3 := e3 ▸ same_new h3
  have u3 : H3 p3 = some (.tup [.ref s1, .ref s2]) := e3 ▸ upd_same
  have t13 := S3 _ _ t1'
  have t23 := S3 _ _ t2
  walk_at "rd"
  refine ⟨by show 2 ≤ sizeLine; decide, fun p4 h4 => ?_⟩
  exact q _ p4 (.ref p3) ((S1.trans S2).trans (S3.trans (same_new h4))) ⟨p3, s1, s2, rfl, upd_old u3 h4, upd_old t13 h4, upd_old t23 h4⟩ upd_same
theorem sc_Walk_after : FnScope ["self", "node", "move", "later", "rise"] ["self", "node", "move"] (defScope s_Walk_after) := by walk_at "sc"
theorem ok_Walk_after (T : Tx w K mg) : Fn PG w K mg base 5 (me K "Walk" "after") (sp_Walk_after K) := by
  obtain ⟨fd, F⟩ := T.fn _ m_Walk_after
  refine fn_mk F (F.bindsN fun _ _ _ _ _ _ us hl => match us, hl with | [_, _, _], _ => rfl) sc_Walk_after (fun vs H Q E h => by obtain ⟨c, sg, oc, hsg, r, v, n, m, rfl, ⟨dx, a, hr0, ha⟩, ⟨nd, rfl, hn⟩, q⟩ := h; rfl) ?_
  intro cdv A outer s H vs Q E hr h
  refine ⟨_, PSs.nox (pss_cons (ps_asg (pe_cl (ok_behind T) (hr.mono (by decide)) (T.g "behind") (T.kp _ m_behind) (fun _ => pas0) (pa_cons (pe_fld (pv 0) rfl) (pa_cons (pv 1) (pa_cons (pv 2) pa_nil)))) (pg_tup rfl (pgs_cons (pg_name (i := 3) sc_Walk_after.nd rfl (Or.inl rfl)) (pgs_cons (pg_name (i := 4) sc_Walk_after.nd rfl (Or.inl rfl)) pgs_nil))))
    (pss_one (ps_ret (pe_tup (pa_cons (pv 3) (pa_cons (pe_op op_mul (pv 4) (pe_fld (pv 0) rfl)) pa_nil)))))), ?_⟩
  obtain ⟨c, sg, oc, hsg, r, v, n, m, rfl, ⟨dx, a, hr0, ha⟩, ⟨nd, rfl, hn⟩, q⟩ := h
  walk_at "rd"
  refine ⟨⟨oc.r0, oc.r1⟩, fun H1 p1 s1 S1 t1 u1 => ?_⟩
  have hr1 := S1 _ _ hr0
  walk_at "rd"
  refine ⟨.inr ⟨by omega, by omega⟩, ?_⟩
  walk_at "rd"
  refine ⟨by show 2 ≤ sizeLine; decide, fun p4 h4 => ?_⟩
  exact q _ p4 (.ref s1) (S1.trans (same_new h4)) ⟨s1, rfl, upd_old t1 h4⟩ upd_same
end
end K56
namespace K56
open PySem PySem.Spec PyProof.Rows L2
/-! ### the heap but for what changes -/
def dl (M : List Addr) (H : Hp) : Hp := fun b => if b ∈ M then none else H b
section
variable {M : List Addr} {H H' : Hp} {p m : Addr} {o : HO}
theorem dl_in (h : m ∈ M) : dl M H m = none := if_pos h
theorem dl_out (h : m ∉ M) : dl M H m = H m := if_neg h
theorem dl_upd_in (h : m ∈ M) : dl M (upd H m o) = dl M H := by
  funext b
  unfold dl
  by_cases hb : b ∈ M
  · rw [if_pos hb, if_pos hb]
  · rw [if_neg hb, if_neg hb, upd_ne (fun e => hb (by rw [e]; exact h))]
theorem dl_upd_out (h : p ∉ M) : dl M (upd H p o) = upd (dl M H) p o := by
  funext b
  unfold dl
  by_cases hp : b = p
  · subst hp
    rw [if_neg h, upd_same, upd_same]
  · rw [upd_ne hp, upd_ne hp]
theorem dl_new (h : H p = none) : dl (p :: M) (upd H p o) = dl M H := by
  funext b
  unfold dl
  by_cases hp : b = p
  · subst hp
    rw [if_pos List.mem_cons_self, h]
    split <;> rfl
  · rw [upd_ne hp]
    by_cases hb : b ∈ M
    · rw [if_pos hb, if_pos (List.mem_cons_of_mem _ hb)]
    · rw [if_neg hb, if_neg (by simp [hp, hb])]
theorem dl_le : Same (dl M H) H := fun b u e => by
  unfold dl at e
  by_cases hb : b ∈ M
  · rw [if_pos hb] at e; cases e
  · rw [if_neg hb] at e; exact e
theorem Same.dl (s : Same H H') : Same (K56.dl M H) (K56.dl M H') := fun b u e => by
  unfold K56.dl at e ⊢
  by_cases hb : b ∈ M
  · rw [if_pos hb] at e; cases e
  · rw [if_neg hb] at e ⊢; exact s _ _ e
theorem dl_less : Same (dl (p :: M) H) (dl M H) := fun b u e => by
  unfold dl at e ⊢
  by_cases hb : b ∈ p :: M
  · rw [if_pos hb] at e; cases e
  · rw [if_neg hb] at e
    rw [if_neg (fun z => hb (List.mem_cons_of_mem _ z))]
    exact e
theorem dl_nil : dl [] H = H := by
  funext b
  unfold dl
  rw [if_neg (by simp)]
/-- what is no tuple can be left out -/
def NoTup (M : List Addr) (H : Hp) : Prop := ∀ m ∈ M, H m ≠ none ∧ ∀ xs, H m ≠ some (.tup xs)
theorem NoTup.at (n : NoTup M H) {a : Addr} {xs : List V} (h : H a = some (.tup xs)) : K56.dl M H a = some (.tup xs) := by
  rw [dl_out (fun hm => (n a hm).2 xs h)]
  exact h
end
theorem upd_live {H : Hp} {a b : Addr} {o : HO} (h : H b ≠ none) : upd H a o b ≠ none := by
  by_cases e : b = a
  · subst e
    rw [upd_same]
    exact fun z => nomatch z
  · rw [upd_ne e]
    exact h
theorem Same.live {H H' : Hp} (s : Same H H') {b : Addr} (h : H b ≠ none) : H' b ≠ none := by
  cases e : H b with
  | none => exact absurd e h
  | some o => rw [s _ _ e]; exact fun z => nomatch z
theorem NoTup.fresh {M : List Addr} {H : Hp} (n : NoTup M H) {p : Addr} (h : H p = none) : p ∉ M := fun hm => (n p hm).1 h
/-! ### nodes -/
def skey (s : Sd) : NestedKey := .tup [.num s.1, .num s.2.1, .num s.2.2]
def pkey (n : Sd × Sd) : NestedKey := .tup [skey n.1, skey n.2]
/-- a kind of nodes: R tells which value is which node -/
structure Nk {N : Type} (R : Hp → V → N → Prop) (key : N → NestedKey) : Prop where
  mono : ∀ {H H' : Hp} {v : V} {n : N}, Same H H' → R H v n → R H' v n
  dl : ∀ {M : List Addr} {H : Hp} {v : V} {n : N}, NoTup M H → R H v n → R (K56.dl M H) v n
  nk : ∀ {H : Hp} {v : V} {n : N}, R H v n → ∃ a, v = .ref a ∧ NK H (key n) (.ref a) ∧ (key n).depth ≤ 8
  inj : ∀ {a b : N}, key a = key b → a = b
theorem skey_nk {H : Hp} {a : Addr} {s : Sd} (h : StAt H a s) : NK H (skey s) (.ref a) := .tup h (.cons (.int _) (.cons (.int _) (.cons (.int _) .nil)))
theorem skey_inj {a b : Sd} (h : skey a = skey b) : a = b := by
  obtain ⟨a1, a2, a3⟩ := a
  obtain ⟨b1, b2, b3⟩ := b
  unfold skey at h
  simp only [NestedKey.tup.injEq, List.cons.injEq, NestedKey.num.injEq, and_true] at h
  obtain ⟨h1, h2, h3⟩ := h
  rw [h1, h2, h3]
theorem skey_depth (s : Sd) : (skey s).depth = 1 := by simp [skey, NestedKey.depth, NestedKey.depthAll]
theorem nk_st : Nk StN skey where
  mono := fun e h => StN.mono e h
  dl := fun n ⟨a, e, h⟩ => ⟨a, e, n.at h⟩
  nk := fun ⟨a, e, h⟩ => ⟨a, e, skey_nk h, by rw [skey_depth]; decide⟩
  inj := skey_inj
theorem nk_pr : Nk PrN pkey where
  mono := fun e h => PrN.mono e h
  dl := fun n ⟨a, b, c, e, h1, h2, h3⟩ => ⟨a, b, c, e, n.at h1, n.at h2, n.at h3⟩
  nk := fun {H v n} ⟨a, b, c, e, h1, h2, h3⟩ => ⟨a, e, .tup h1 (.cons (skey_nk h2) (.cons (skey_nk h3) .nil)), by
    show (NestedKey.tup [skey n.1, skey n.2]).depth ≤ 8
    simp [NestedKey.depth, NestedKey.depthAll, skey_depth]⟩
  inj := fun {a b} h => by
    obtain ⟨a1, a2⟩ := a
    obtain ⟨b1, b2⟩ := b
    unfold pkey at h
    simp only [NestedKey.tup.injEq, List.cons.injEq, and_true] at h
    rw [skey_inj h.1, skey_inj h.2]
/-! ### the places: entries k .. of values vs, nodes ns -/
def adr : V → Addr
  | .ref a => a
  | _ => 0
def ents {N : Type} (key : N → NestedKey) : Nat → List V → List N → List ND
  | k, v :: vs, n :: ns => (key n, adr v, (k : Int)) :: ents key (k + 1) vs ns
  | _, _, _ => []
section
variable {N : Type} [DecidableEq N] {R : Hp → V → N → Prop} {key : N → NestedKey}
theorem ents_snoc {v : V} {n : N} : ∀ {k : Nat} {vs : List V} {ns : List N}, vs.length = ns.length → ents key k (vs ++ [v]) (ns ++ [n]) = ents key k vs ns ++ [(key n, adr v, ((k + ns.length : Nat) : Int))]
  | k, [], [], _ => rfl
  | k, w :: vs, m :: ns, h => by
    show (key m, adr w, (k : Int)) :: ents key (k + 1) (vs ++ [v]) (ns ++ [n]) = _
    rw [ents_snoc (Nat.succ.inj h)]
    show _ = (key m, adr w, (k : Int)) :: (ents key (k + 1) vs ns ++ _)
    rw [List.length_cons, show k + 1 + ns.length = k + (ns.length + 1) by omega]
  | k, [], _ :: _, h => by cases h
  | k, _ :: _, [], h => by cases h
theorem ents_len : ∀ {k : Nat} {vs : List V} {ns : List N}, vs.length = ns.length → (ents key k vs ns).length = ns.length
  | k, [], [], _ => rfl
  | k, w :: vs, m :: ns, h => by
    show (ents key (k + 1) vs ns).length + 1 = _
    rw [ents_len (Nat.succ.inj h)]
    rfl
  | k, [], _ :: _, h => by cases h
  | k, _ :: _, [], h => by cases h
theorem ents_keys : ∀ {k : Nat} {vs : List V} {ns : List N}, vs.length = ns.length → (ents key k vs ns).map (·.1) = ns.map key
  | k, [], [], _ => rfl
  | k, w :: vs, m :: ns, h => by
    show key m :: (ents key (k + 1) vs ns).map (·.1) = _
    rw [ents_keys (Nat.succ.inj h)]
    rfl
  | k, [], _ :: _, h => by cases h
  | k, _ :: _, [], h => by cases h
theorem ents_find (hn : Nk R key) {n : N} : ∀ {k : Nat} {vs : List V} {ns : List N}, vs.length = ns.length → ndFind (ents key k vs ns) (key n) = (ix ns n).map fun i => ((k + i : Nat) : Int)
  | k, [], [], _ => rfl
  | k, w :: vs, m :: ns, h => by
    unfold ndFind ix
    show ((((key m, adr w, (k : Int)) :: ents key (k + 1) vs ns).find? fun x => decide (x.1 = key n)).map (·.2.2)) = _
    by_cases c : m = n
    · subst c
      rw [List.find?_cons_of_pos (by simp), List.idxOf?_cons]
      simp
    · have c2 : ¬ key m = key n := fun z => c (hn.inj z)
      rw [List.find?_cons_of_neg (by simpa using c2), List.idxOf?_cons, if_neg (by simpa using c)]
      have ih := ents_find hn (n := n) (k := k + 1) (vs := vs) (ns := ns) (Nat.succ.inj h)
      unfold ndFind ix at ih
      rw [ih, Option.map_map]
      congr 1
      funext i
      show ((k + 1 + i : Nat) : Int) = ((k + (i + 1) : Nat) : Int)
      rw [show k + 1 + i = k + (i + 1) by omega]
  | k, [], _ :: _, h => by cases h
  | k, _ :: _, [], h => by cases h
theorem ents_ok (hn : Nk R key) {H : Hp} : ∀ {k : Nat} {vs : List V} {ns : List N}, Paired (R H) vs ns → ∀ x ∈ ents key k vs ns, NK H x.1 (.ref x.2.1) ∧ x.1.depth ≤ 8
  | _, _, _, .nil, x, hx => by cases hx
  | k, _, _, .cons (a := v) (b := n) h t, x, hx => by
    rcases List.mem_cons.mp hx with rfl | hx
    · obtain ⟨a, rfl, h1, h2⟩ := hn.nk h
      exact ⟨h1, h2⟩
    · exact ents_ok hn t x hx
theorem ents_ndk (hn : Nk R key) {H : Hp} {vs : List V} {ns : List N} (h : Paired (R H) vs ns) (nd : ns.Nodup) (hl : ns.length ≤ 600) : NDk H (ents key 0 vs ns) where
  key := ents_ok hn h
  nodup := by
    rw [ents_keys (Paired.length h)]
    exact List.Pairwise.map _ (fun a b hab e => hab (hn.inj e)) nd
  len := by
    rw [ents_len (Paired.length h), sizeLine_eq]
    omega
end
theorem Paired.imp {α β : Type} {R S : α → β → Prop} (f : ∀ a b, R a b → S a b) : ∀ {xs : List α} {ys : List β}, Paired R xs ys → Paired S xs ys
  | _, _, .nil => .nil
  | _, _, .cons h t => .cons (f _ _ h) (K56.Paired.imp f t)
theorem Paired.get {α β : Type} {R : α → β → Prop} : ∀ {xs : List α} {ys : List β} {i : Nat} {y : β}, Paired R xs ys → ys[i]? = some y → ∃ x, xs[i]? = some x ∧ R x y
  | _, _, i, y, .nil, h => by simp at h
  | _, _, 0, y, .cons h t, e => ⟨_, rfl, by cases (Option.some.inj e); exact h⟩
  | _, _, i + 1, y, .cons h t, e => by
    obtain ⟨x, h1, h2⟩ := K56.Paired.get (i := i) (y := y) t (by simpa using e)
    exact ⟨x, by simpa using h1, h2⟩
end K56
namespace K56
open PySem PySem.Spec PyProof.Rows L2
theorem NDk.mono {H H' : Hp} (e : Same H H') {xs : List ND} (h : NDk H xs) : NDk H' xs := ⟨fun x hx => ⟨NK.mono e (h.key x hx).1, (h.key x hx).2⟩, h.nodup, h.len⟩
theorem ndFind_snoc {xs : List ND} {k : NestedKey} {a : Addr} {i : Int} (h : ndFind xs k = none) : ndFind (xs ++ [(k, a, i)]) k = some i := by
  unfold ndFind at h ⊢
  have e : (xs.find? fun x => decide (x.1 = k)) = none := by simpa using h
  rw [List.find?_append, e]
  simp
theorem place_some {N : Type} [DecidableEq N] {here : Nat} {m : Int} {n : N} {nodes : List N} {orig : List (Option (Nat × Int))} {i : Nat} (h : ix nodes n = some i) : place here m n nodes orig = (nodes, orig, i) := by unfold place; rw [h]
theorem place_none {N : Type} [DecidableEq N] {here : Nat} {m : Int} {n : N} {nodes : List N} {orig : List (Option (Nat × Int))} (h : ix nodes n = none) : place here m n nodes orig = (nodes ++ [n], orig ++ [some (here, m)], nodes.length) := by unfold place; rw [h]
end K56
namespace K56
open PySem PySem.Spec PyProof.Rows L2
theorem while_m {c : TT} {tb : TS} {D : Ends} {σ : L2.St} {H : Hp} (Pv : Nat → L2.St → Hp → Prop) (h0 : ∃ m, Pv m σ H)
    (hs : ∀ m σ H, Pv m σ H → c σ H fun b H1 => if b = true then tb { D with nx := fun σ' H' => ∃ m', m' < m ∧ Pv m' σ' H', ct := fun σ' H' => ∃ m', m' < m ∧ Pv m' σ' H', bk := D.nx } σ H1 else D.nx σ H1)
    (mono : ∀ σ H Q Q', (∀ b H1, Q b H1 → Q' b H1) → c σ H Q → c σ H Q') : tWhile c tb D σ H := by
  refine ⟨Pv, h0, fun m σ H p => ?_⟩
  refine mono σ H _ _ (fun b H1 q => ?_) (hs m σ H p)
  cases b with
  | true => exact ⟨_, fun σ' H' z => z, q⟩
  | false => exact q
end K56
namespace K56
open PySem PySem.Spec PyProof.Rows L2
theorem NoTup.nil {H : Hp} : NoTup [] H := fun m hm => by cases hm
theorem NoTup.cons {M : List Addr} {H : Hp} {p : Addr} {o : HO} (h : H p = some o) (ht : ∀ xs, o ≠ .tup xs) (n : NoTup M H) : NoTup (p :: M) H := fun m hm => by
  rcases List.mem_cons.mp hm with rfl | hm
  · exact ⟨fun z => (by rw [h] at z; cases z), fun xs z => by rw [h] at z; exact ht xs (Option.some.inj z)⟩
  · exact n m hm
theorem place_pre {N : Type} [DecidableEq N] {here : Nat} {m : Int} {n : N} {nodes : List N} {orig : List (Option (Nat × Int))} : nodes <+: (place here m n nodes orig).1 := by
  unfold place
  split
  · exact List.prefix_refl _
  · exact List.prefix_append _ _
theorem pre_at {α : Type} {l l' : List α} {i : Nat} {x : α} (h : l <+: l') (e : l[i]? = some x) : l'[i]? = some x := by
  obtain ⟨t, rfl⟩ := h
  rw [List.getElem?_append_left (List.getElem?_eq_some_iff.mp e).1]
  exact e
end K56
namespace K56
open PySem PySem.Spec PyProof.Rows L2
def MonoE (t : TE) : Prop := ∀ σ H (Q Q' : VK), (∀ v H1, Q v H1 → Q' v H1) → t σ H Q → t σ H Q'
def MonoA (t : TA) : Prop := ∀ σ H (Q Q' : List V → Hp → Prop), (∀ v H1, Q v H1 → Q' v H1) → t σ H Q → t σ H Q'
theorem mono_var {i : Nat} : MonoE (tVar i) := fun σ H Q Q' h ⟨v, e, q⟩ => ⟨v, e, h _ _ q⟩
theorem mono_fld {K : PySem.W.Frag} {t : TE} {f : Str} (m : MonoE t) : MonoE (tFld K t f) := fun σ H Q Q' h z => m _ _ _ _ (fun v H1 ⟨a, C, dx, fs, v', e1, e2, e3, e4, e5, q⟩ => ⟨a, C, dx, fs, v', e1, e2, e3, e4, e5, h _ _ q⟩) z
theorem mono_nil : MonoA tNil := fun σ H Q Q' h z => h _ _ z
theorem mono_cons {t : TE} {u : TA} (m : MonoE t) (m2 : MonoA u) : MonoA (tCons t u) := fun σ H Q Q' h z => m _ _ _ _ (fun v H1 q => m2 _ _ _ _ (fun vs H2 q2 => h _ _ q2) q) z
theorem mono_len {K : PySem.W.Frag} {t : TA} (m : MonoA t) : MonoE (tCB (fun xs H Q => ∃ p ys, xs = [.ref p] ∧ (SqL K H p ys ∨ SqT K H p ys) ∧ Q (.int ys.length) H) t) := fun σ H Q Q' h z => m _ _ _ _ (fun v H1 ⟨p, ys, e1, e2, q⟩ => ⟨p, ys, e1, e2, h _ _ q⟩) z
theorem mono_I0 {g : Int → Int → V} {a b : TE} (m : MonoE a) (m2 : MonoE b) : MonoE (tOp (rI0 g) a b) := fun σ H Q Q' h z => m _ _ _ _ (fun x H1 q => m2 _ _ _ _ (fun y H2 ⟨i, j, e1, e2, q2⟩ => ⟨i, j, e1, e2, h _ _ q2⟩) q) z
theorem mono_test {t : TE} (m : MonoE t) : ∀ σ H (Q Q' : Bool → Hp → Prop), (∀ b H1, Q b H1 → Q' b H1) → tTest t σ H Q → tTest t σ H Q' := fun σ H Q Q' h z => m _ _ _ _ (fun v H1 ⟨k, e, q⟩ => ⟨k, e, h _ _ q⟩) z
end K56
namespace K56
open PySem PySem.Spec PyProof.Rows L2
theorem ixN_nat {n j : Nat} (h : j < n) : ixN n (j : Int) = some j := by
  unfold ixN
  rw [if_pos (by omega), if_pos (by omega)]
  simp
end K56
namespace K56
open PySem PySem.Spec PyProof.Rows L2
theorem mono_c {v : V} : MonoE (tC v) := fun σ H Q Q' h z => h _ _ z
theorem mono_opL {K : PySem.W.Frag} {a b : TE} (m : MonoE a) (m2 : MonoE b) : MonoE (tOp (rIxL K) a b) := fun σ H Q Q' h z => m _ _ _ _ (fun x H1 q => m2 _ _ _ _ (fun y H2 ⟨p, xs, i, v, e1, e2, e3, e4, q2⟩ => ⟨p, xs, i, v, e1, e2, e3, e4, h _ _ q2⟩) q) z
theorem mono_opN {g : V → V} {a b : TE} (m : MonoE a) (m2 : MonoE b) : MonoE (tOp (fun x y H Q => y = .non ∧ Q (g x) H) a b) := fun σ H Q Q' h z => m _ _ _ _ (fun x H1 q => m2 _ _ _ _ (fun y H2 ⟨e1, q2⟩ => ⟨e1, h _ _ q2⟩) q) z
end K56
namespace K56
open PySem PySem.Spec PyProof.Rows L2
theorem dl1_new {H : Hp} {x : Addr} {o : HO} (h : H x = none) : dl [x] (upd H x o) = H := by rw [dl_new h, dl_nil]
/-- the heap before an object is made, with its dict -/
theorem made_none {H : Hp} {x dx : Addr} (hx : H x = none) (hn : dx ≠ x) : upd H dx (.own x) x = none := by rw [upd_ne (Ne.symm hn)]; exact hx
theorem made_same {H : Hp} {x dx : Addr} {o : HO} (hx : H x = none) (hd : H dx = none) (hn : dx ≠ x) : Same H (upd (upd H dx (.own x)) x o) := (same_new hd).trans (same_new (made_none hx hn))
end K56
namespace K56
open PySem PySem.Spec PyProof.Rows L2
local macro_rules | `(tactic| walk_at "rd") => `(tactic| repeat (first | (refine ⟨_, rfl, ?_⟩) | (refine ⟨_, _, rfl, rfl, ?_⟩) | (refine ⟨rfl, ?_⟩) | (refine ⟨_, (by assumption : _ = some (HO.tup _)), ?_⟩) | (refine ⟨_, _, _, _, rfl, rfl, SqT.of (by assumption), rfl, ?_⟩) | (refine ⟨_, _, _, _, rfl, rfl, SqL.of (by assumption), rfl, ?_⟩) | (refine ⟨_, _, rfl, .inr (SqT.of (by assumption)), ?_⟩) | (refine ⟨_, _, rfl, .inl (SqL.of (by assumption)), ?_⟩) | (refine ⟨_, _, rfl, SqT.of (by assumption), rfl, ?_⟩) | (refine ⟨_, _, _, _, _, rfl, (by assumption : _ = some (HO.ins _ _ _)), Tx.cls (by assumption) _ (by decide +kernel), Tx.noat (by assumption) _ _ (by decide +kernel), rfl, ?_⟩) | (refine ⟨_, _, _, rfl, (by assumption : _ = some (HO.ins _ _ _)), _, _, rfl, (by assumption : ClAt _ _ _ _), ?_⟩) | (refine ⟨_, _, _, _, rfl, (by assumption : _ = some (HO.ins _ _ _)), Tx.cls (by assumption) _ (by decide +kernel), Tx.noat (by assumption) _ _ (by decide +kernel), Nat.le_of_ble_eq_true rfl, ?_⟩) | (refine ⟨_, _, rfl, SqT.of (by assumption), ?_⟩) | (refine ⟨_, _, rfl, SqL.of (by assumption), ?_⟩) | (refine ⟨_, _, rfl, ?_⟩) | (refine ⟨_, _, _, rfl, (by assumption : _ = some (HO.ins _ _ _)), ?_⟩) | (refine ⟨_, _, _, rfl, (by assumption : _ = some (HO.tup _)), ?_⟩) | (refine ⟨_, _, _, rfl, (by assumption : ClAt _ _ _ _), ?_⟩) | (refine ⟨_, _, _, _, _, rfl, (by assumption : ClAt _ _ _ _), (by assumption : _ = some (HO.tup _)), ?_⟩) | (refine ⟨.inl ⟨rfl, _, SqL.of (by assumption)⟩, ?_⟩) | (refine ⟨⟨_, SqL.of (by assumption)⟩, ?_⟩) | (refine ⟨⟨_, SqT.of (by assumption)⟩, ?_⟩) | (with_reducible refine ite_t ?kc ?kg; (case kc => simp; done)) | (with_reducible refine ite_f ?kc ?kg; (case kc => simp; done))))
local macro_rules | `(tactic| walk_at "sc") => `(tactic| exact ⟨rfl, rfl, rfl, by decide +kernel, rfl, by decide +kernel, by decide +kernel⟩)
section
variable {w : World} {K : PySem.W.Frag} {mg : Str → Option Value} {base : Heap}
/-- an origin -/
def OgAt (H : Hp) (v : V) (o : Option (Nat × Int)) : Prop := match o with
  | none => v = .non
  | some (h, m) => ∃ t, v = .ref t ∧ H t = some (.tup [.int h, .int m])
theorem OgAt.mono {H H' : Hp} (e : Same H H') {v : V} {o : Option (Nat × Int)} (h : OgAt H v o) : OgAt H' v o := by
  cases o with
  | none => exact h
  | some p =>
    obtain ⟨t, e1, e2⟩ := h
    exact ⟨t, e1, e _ _ e2⟩
theorem OgAt.dl {M : List Addr} {H : Hp} (n : NoTup M H) {v : V} {o : Option (Nat × Int)} (h : OgAt H v o) : OgAt (K56.dl M H) v o := by
  cases o with
  | none => exact h
  | some p =>
    obtain ⟨t, e1, e2⟩ := h
    exact ⟨t, e1, n.at e2⟩
/-- what stands of a web's nodes, places, origins -/
structure NP {N : Type} (w : World) (R : Hp → V → N → Prop) (key : N → NestedKey) (G H : Hp) (ln pd lo : Addr) (nodes : List N) (orig : List (Option (Nat × Int))) : Prop where
  st : ∃ nvs ovs, H ln = some (.lst nvs) ∧ Paired (R G) nvs nodes ∧ H pd = some (nd PG w pd (ents key 0 nvs nodes)) ∧ H lo = some (.lst ovs) ∧ Paired (OgAt G) ovs orig
def webF (ln pd ls lo : Addr) : List (Str × V) := [("nodes", .ref ln), ("places", .ref pd), ("steps", .ref ls), ("origins", .ref lo)]
def sp_Web_place_of {N : Type} [DecidableEq N] (w : World) (R : Hp → V → N → Prop) (key : N → NestedKey) (K : PySem.W.Frag) : Sp := fun vs H Q _ => ∃ (x dx ln pd ls lo : Addr) (v : V) (n : N) (here : Nat) (m : Int) (M : List Addr) (nodes : List N) (orig : List (Option (Nat × Int))),
  vs = [.ref x, v, .int here, .int m] ∧ H x = some (.ins (ga K "Web") dx (webF ln pd ls lo)) ∧ (ln ∈ M ∧ pd ∈ M ∧ lo ∈ M ∧ ln ≠ lo) ∧ NoTup M H ∧ NP w R key (dl M H) H ln pd lo nodes orig ∧ R (dl M H) v n ∧ nodes.Nodup ∧ nodes.length < 600 ∧ orig.length = nodes.length ∧
  ∀ H', (∀ b o, b ≠ ln → b ≠ pd → b ≠ lo → H b = some o → H' b = some o) → Same (dl M H) (dl M H') → NP w R key (dl M H') H' ln pd lo (place here m n nodes orig).1 (place here m n nodes orig).2.1 → Q (.int (place here m n nodes orig).2.2) H'
theorem sc_Web_place_of : FnScope ["self", "node", "here", "move"] ["self", "node", "here", "move"] (defScope s_Web_place_of) := by walk_at "sc"
theorem ok_Web_place_of (T : Tx w K mg) {N : Type} [DecidableEq N] {R : Hp → V → N → Prop} {key : N → NestedKey} (hn : Nk R key) : Fn PG w K mg base 1 (me K "Web" "place_of") (sp_Web_place_of w R key K) := by
  obtain ⟨fd, F⟩ := T.fn _ m_Web_place_of
  refine fn_mk F (F.bindsN fun _ _ _ _ _ _ us hl => match us, hl with | [_, _, _, _], _ => rfl) sc_Web_place_of (fun vs H Q E h => by obtain ⟨x, dx, ln, pd, ls, lo, v, n, here, m, M, nodes, orig, rfl, hx, ⟨m1, m2, m3, hne⟩, hNT, ⟨nvs, ovs, hln, hnv, hpd, hlo, hov⟩, hR, hnd, hlen, hol, q⟩ := h; rfl) ?_
  intro cdv A outer s H vs Q E hr h
  refine ⟨_, PSs.nox (pss_cons (ps_if (pt_cmpR (op_notInND (hu_le hr)) (pv 1) (pe_fld (pv 0) rfl) rfl) (pss_cons (ps_if (pt_cmpR op_eq (pe_callB call_len_seq rfl (T.f "len") (by decide +kernel) (pa_cons (pe_fld (pv 0) rfl) pa_nil)) (pe_gI T "MOST_STANDINGS" 600) (nomark _)) (pss_one ps_never) pss_nil)
    (pss_cons (ps_asg (pe_callB call_len_seq rfl (T.f "len") (by decide +kernel) (pa_cons (pe_fld (pv 0) rfl) pa_nil)) (pg_sub (pe_fld (pv 0) rfl) (pv 1) (set_nd (hu_le hr))))
    (pss_cons (ps_expr (pe_bm PySem.F.plainAttrs_list PySem.F.slot_list_append PySem.F.type_list_append mt_append (pe_fld (pv 0) rfl) (pa_cons (pv 1) pa_nil)))
    (pss_one (ps_expr (pe_bm PySem.F.plainAttrs_list PySem.F.slot_list_append PySem.F.type_list_append mt_append (pe_fld (pv 0) rfl) (pa_cons (pe_tup (pa_cons (pv 2) (pa_cons (pv 3) pa_nil))) pa_nil))))))) pss_nil)
    (pss_one (ps_ret (pe_ixND (hu_le hr) (pe_fld (pv 0) rfl) (pv 1))))), ?_⟩
  obtain ⟨x, dx, ln, pd, ls, lo, v, n, here, m, M, nodes, orig, rfl, hx, ⟨m1, m2, m3, hne⟩, hNT, ⟨nvs, ovs, hln, hnv, hpd, hlo, hov⟩, hR, hnd, hlen, hol, q⟩ := h
  walk_at "rd"
  have hl := Paired.length hnv
  obtain ⟨a, rfl, hk0, hd⟩ := hn.nk hR
  have hK := (ents_ndk hn hnv hnd (Nat.le_of_lt hlen)).mono (dl_le (M := M) (H := H))
  have hk := NK.mono (dl_le (M := M) (H := H)) hk0
  have hf := ents_find hn (n := n) (k := 0) hl
  refine ⟨a, pd, _, key n, rfl, rfl, hpd, hK, hk, hd, ?_⟩
  cases hi : ix nodes n with
  | some i =>
    rw [place_some hi] at q
    rw [hi] at hf
    rw [hf]
    walk_at "rd"
    refine ⟨a, pd, _, key n, ((i : Nat) : Int), rfl, rfl, hpd, hK, hk, hd, ?_, ?_⟩
    · rw [hf]
      show some (((0 + i : Nat)) : Int) = _
      rw [Nat.zero_add]
    · exact q H (fun _ _ _ _ _ e => e) (Same.refl _) ⟨nvs, ovs, hln, hnv, hpd, hlo, hov⟩
  | none =>
    rw [place_none hi] at q
    rw [hi] at hf
    rw [hf]
    walk_at "rd"
    refine ite_df (fun z => by have := V.int.inj z; omega) ?_
    walk_at "rd"
    refine ⟨a, pd, _, key n, _, rfl, rfl, rfl, hpd, hK, hk, hd, hf, ?_⟩
    have npl : pd ≠ ln := ne_of hpd hln (by intro z; cases z)
    have npo : pd ≠ lo := ne_of hpd hlo (by intro z; cases z)
    have nxp : x ≠ pd := ne_of hx hpd (by intro z; cases z)
    have nxl : x ≠ ln := ne_of hx hln (by intro z; cases z)
    have nxo : x ≠ lo := ne_of hx hlo (by intro z; cases z)
    generalize e1 : upd H pd _ = H1
    have x1 : H1 x = some (.ins (ga K "Web") dx (webF ln pd ls lo)) := by rw [← e1, upd_ne nxp]; exact hx
    have l1 : H1 ln = some (.lst nvs) := by rw [← e1, upd_ne (Ne.symm npl)]; exact hln
    have o1 : H1 lo = some (.lst ovs) := by rw [← e1, upd_ne (Ne.symm npo)]; exact hlo
    have p1 : H1 pd = some (nd PG w pd (ents key 0 nvs nodes ++ [(key n, a, ((nvs.length : Nat) : Int))])) := by rw [← e1]; exact upd_same
    have d1 : dl M H1 = dl M H := by rw [← e1]; exact dl_upd_in m2
    walk_at "rd"
    refine ⟨_, _, _, rfl, rfl, l1, by rw [sizeLine_eq]; omega, ?_⟩
    generalize e2 : upd H1 ln _ = H2
    have x2 : H2 x = some (.ins (ga K "Web") dx (webF ln pd ls lo)) := by rw [← e2, upd_ne nxl]; exact x1
    have l2 : H2 ln = some (.lst (nvs ++ [.ref a])) := by rw [← e2]; exact upd_same
    have o2 : H2 lo = some (.lst ovs) := by rw [← e2, upd_ne (Ne.symm hne)]; exact o1
    have p2 : H2 pd = some (nd PG w pd (ents key 0 nvs nodes ++ [(key n, a, ((nvs.length : Nat) : Int))])) := by rw [← e2, upd_ne npl]; exact p1
    have d2 : dl M H2 = dl M H := by rw [← e2, dl_upd_in m1]; exact d1
    walk_at "rd"
    refine ⟨by show 2 ≤ sizeLine; decide, fun t ht => ?_⟩
    generalize e3 : upd H2 t _ = H3
    have S3 : Same H2 H3 := e3 ▸ same_new ht
    have t3 : H3 t = some (.tup [.int (here : Nat), .int m]) := e3 ▸ upd_same
    have o3 := S3 _ _ o2
    have hovl := Paired.length hov
    refine ⟨_, _, _, rfl, rfl, o3, by rw [sizeLine_eq]; omega, ?_⟩
    have nto : t ≠ lo := ne_of t3 o3 (by intro z; cases z)
    have nxo : x ≠ lo := ne_of x2 o2 (by intro z; cases z)
    generalize e4 : upd H3 lo _ = H4
    have x4 : H4 x = some (.ins (ga K "Web") dx (webF ln pd ls lo)) := by rw [← e4, upd_ne nxo]; exact S3 _ _ x2
    have l4 : H4 ln = some (.lst (nvs ++ [.ref a])) := by rw [← e4, upd_ne hne]; exact S3 _ _ l2
    have o4 : H4 lo = some (.lst (ovs ++ [.ref t])) := by rw [← e4]; exact upd_same
    have p4 : H4 pd = some (nd PG w pd (ents key 0 nvs nodes ++ [(key n, a, ((nvs.length : Nat) : Int))])) := by rw [← e4, upd_ne npo]; exact S3 _ _ p2
    have t4 : H4 t = some (.tup [.int (here : Nat), .int m]) := by rw [← e4, upd_ne nto]; exact t3
    have d4 : Same (dl M H) (dl M H4) := by rw [← e4, dl_upd_in m3, ← d2]; exact Same.dl S3
    have h4 : Same (dl M H) H4 := d4.trans dl_le
    have hes : ents key 0 nvs nodes ++ [(key n, a, ((nvs.length : Nat) : Int))] = ents key 0 (nvs ++ [.ref a]) (nodes ++ [n]) := by
      rw [ents_snoc hl, hl, Nat.zero_add]
      rfl
    have hnv4 : Paired (R (dl M H4)) (nvs ++ [.ref a]) (nodes ++ [n]) := (K56.Paired.imp (fun _ _ h => hn.mono d4 h) hnv).snoc (hn.mono d4 hR)
    have hnd4 : (nodes ++ [n]).Nodup := by
      rw [List.nodup_append]
      exact ⟨hnd, by simp, fun b hb c hc e => by
        rw [List.mem_singleton.mp hc] at e
        exact ix_none hi (e ▸ hb)⟩
    have hK4 := (ents_ndk hn hnv4 hnd4 (by rw [List.length_append]; exact hlen)).mono (dl_le (M := M) (H := H4))
    have tM : t ∉ M := fun hm => (show H2 t ≠ none by rw [← e2]; exact upd_live (by rw [← e1]; exact upd_live (hNT t hm).1)) ht
    walk_at "rd"
    refine ⟨a, pd, _, key n, ((nodes.length : Nat) : Int), rfl, rfl, p4, hes ▸ hK4, NK.mono h4 hk0, hd, ?_, ?_⟩
    · rw [ndFind_snoc (by rw [hf]; rfl), hl]
    · refine q H4 (fun b o b1 b2 b3 e => ?_) d4 ⟨_, _, l4, hnv4, hes ▸ p4, o4, (K56.Paired.imp (fun _ _ h => OgAt.mono d4 h) hov).snoc ⟨t, rfl, ?_⟩⟩
      · rw [← e4, upd_ne b3]
        refine S3 _ _ ?_
        rw [← e2, upd_ne b1, ← e1, upd_ne b2]
        exact e
      · rw [dl_out tM]
        exact t4
end
end K56
namespace K56
open PySem PySem.Spec PyProof.Rows L2
local macro_rules | `(tactic| walk_at "rd") => `(tactic| repeat (first | (refine ⟨_, rfl, ?_⟩) | (refine ⟨_, _, rfl, rfl, ?_⟩) | (refine ⟨rfl, ?_⟩) | (refine ⟨_, (by assumption : _ = some (HO.tup _)), ?_⟩) | (refine ⟨_, _, _, _, rfl, rfl, SqT.of (by assumption), rfl, ?_⟩) | (refine ⟨_, _, _, _, rfl, rfl, SqL.of (by assumption), rfl, ?_⟩) | (refine ⟨_, _, rfl, .inr (SqT.of (by assumption)), ?_⟩) | (refine ⟨_, _, rfl, .inl (SqL.of (by assumption)), ?_⟩) | (refine ⟨_, _, rfl, SqT.of (by assumption), rfl, ?_⟩) | (refine ⟨_, _, _, _, _, rfl, (by assumption : _ = some (HO.ins _ _ _)), Tx.cls (by assumption) _ (by decide +kernel), Tx.noat (by assumption) _ _ (by decide +kernel), rfl, ?_⟩) | (refine ⟨_, _, _, rfl, (by assumption : _ = some (HO.ins _ _ _)), _, _, rfl, (by assumption : ClAt _ _ _ _), ?_⟩) | (refine ⟨_, _, _, _, rfl, (by assumption : _ = some (HO.ins _ _ _)), Tx.cls (by assumption) _ (by decide +kernel), Tx.noat (by assumption) _ _ (by decide +kernel), Nat.le_of_ble_eq_true rfl, ?_⟩) | (refine ⟨_, _, rfl, SqT.of (by assumption), ?_⟩) | (refine ⟨_, _, rfl, SqL.of (by assumption), ?_⟩) | (refine ⟨_, _, rfl, ?_⟩) | (refine ⟨_, _, _, rfl, (by assumption : _ = some (HO.ins _ _ _)), ?_⟩) | (refine ⟨_, _, _, rfl, (by assumption : _ = some (HO.tup _)), ?_⟩) | (refine ⟨_, _, _, rfl, (by assumption : ClAt _ _ _ _), ?_⟩) | (refine ⟨_, _, _, _, _, rfl, (by assumption : ClAt _ _ _ _), (by assumption : _ = some (HO.tup _)), ?_⟩) | (refine ⟨.inl ⟨rfl, _, SqL.of (by assumption)⟩, ?_⟩) | (refine ⟨⟨_, SqL.of (by assumption)⟩, ?_⟩) | (refine ⟨⟨_, SqT.of (by assumption)⟩, ?_⟩) | (with_reducible refine ite_t ?kc ?kg; (case kc => simp; done)) | (with_reducible refine ite_f ?kc ?kg; (case kc => simp; done))))
local macro_rules | `(tactic| walk_at "sc") => `(tactic| exact ⟨rfl, rfl, rfl, by decide +kernel, rfl, by decide +kernel, by decide +kernel⟩)
section
variable {w : World} {K : PySem.W.Frag} {mg : Str → Option Value} {base : Heap}
/-- a step; the steps of one place; of all -/
def SpAt (H : Hp) (v : V) (s : Step) : Prop := ∃ t, v = .ref t ∧ H t = some (.tup [.int s.1, .int s.2.1, .int s.2.2])
def LsAt (H : Hp) (v : V) (l : List Step) : Prop := ∃ a vs, v = .ref a ∧ H a = some (.lst vs) ∧ Paired (SpAt H) vs l
theorem SpAt.mono {H H' : Hp} (e : Same H H') {v : V} {s : Step} (h : SpAt H v s) : SpAt H' v s := by
  obtain ⟨t, e1, e2⟩ := h
  exact ⟨t, e1, e _ _ e2⟩
theorem LsAt.mono {H H' : Hp} (e : Same H H') {v : V} {l : List Step} (h : LsAt H v l) : LsAt H' v l := by
  obtain ⟨a, vs, e1, e2, e3⟩ := h
  exact ⟨a, vs, e1, e _ _ e2, K56.Paired.imp (fun _ _ z => SpAt.mono e z) e3⟩
/-- what stands of a web behind its making -/
structure WbAt {N : Type} (K : PySem.W.Frag) (H : Hp) (x : Addr) (wb : Wb N) : Prop where
  st : ∃ dx ln pd ls lo svs ovs, H x = some (.ins (ga K "Web") dx (webF ln pd ls lo)) ∧ H ls = some (.lst svs) ∧ Paired (LsAt H) svs wb.steps ∧ H lo = some (.lst ovs) ∧ Paired (OgAt H) ovs wb.orig
/-- what the rules give: their method's promise at the object r -/
structure Rul {N : Type} (P : Program) (w : World) (K : PySem.W.Frag) (mg : Str → Option Value) (base : Heap) (R : Hp → V → N → Prop) (aft : N → Int → N × Int) (rl : Hp → Addr → Prop) (C f : Addr) (sp : Sp) : Prop where
  cls : Cls K C
  meth : Meth K C "after" f
  fn : Fn P w K mg base 5 f sp
  ins : ∀ {H : Hp} {r : Addr}, rl H r → ∃ dx fs, H r = some (.ins C dx fs) ∧ fs.lookup ("after" : Str) = none
  run : ∀ {H : Hp} {r : Addr} {v : V} {n : N} {m : Int} {Q : VK} {E : XK}, rl H r → R H v n → (∀ H' p v', Same H H' → R H' v' (aft n m).1 → H' p = some (.tup [v', .int (aft n m).2]) → Q (.ref p) H') → sp [.ref r, v, .int m] H Q E
  mono : ∀ {H H' : Hp} {r : Addr}, Same H H' → rl H r → rl H' r
def sp_Web_init {N : Type} [DecidableEq N] (w : World) (R : Hp → V → N → Prop) (key : N → NestedKey) (aft : N → Int → N × Int) (rl : Hp → Addr → Prop) (K : PySem.W.Frag) : Sp := fun vs H Q _ => ∃ (x dx mv r : Addr) (v : V) (n : N) (ms : List Int) (S : List N) (g : Int),
  vs = [.ref x, v, .ref mv, .ref r] ∧ H x = some (.ins (ga K "Web") dx []) ∧ Good aft ms S g ∧ n ∈ S ∧ R (dl [x] H) v n ∧ dl [x] H mv = some (.lst (ms.map V.int)) ∧ ms.length ≤ 3 ∧ rl (dl [x] H) r ∧
  ∀ H', Same (dl [x] H) H' → WbAt K H' x (web aft ms n) → Q .non H'
/-- within a turn of the making: what stands when st is come to, i moves done -/
structure WIn {N : Type} [DecidableEq N] (w : World) (R : Hp → V → N → Prop) (key : N → NestedKey) (K : PySem.W.Frag) (x dx ln pd ls lo lf : Addr) (svs : List V) (Hs : Hp) (wb : Wb N) (ms : List Int) (S : List N) (g : Int) (i : Nat) (st : In N) (H : Hp) : Prop where
  ok : IOk ms S g wb st
  pre : wb.nodes <+: st.nodes
  hx : H x = some (.ins (ga K "Web") dx (webF ln pd ls lo))
  hs : H ls = some (.lst svs)
  same : Same (dl [lo, ls, pd, ln, x] Hs) (dl [lf, lo, ls, pd, ln, x] H)
  np : NP w R key (dl [lf, lo, ls, pd, ln, x] H) H ln pd lo st.nodes st.orig
  fd : ∃ fvs, H lf = some (.lst fvs) ∧ fvs.length = i ∧ Paired (SpAt (dl [lf, lo, ls, pd, ln, x] H)) fvs st.found
theorem sc_Web_init : FnScope ["self", "start", "moves", "rules", "here", "found", "move", "pair"] ["self", "start", "moves", "rules"] (defScope s_Web_init) := by walk_at "sc"
theorem ok_Web_init (T : Tx w K mg) {N : Type} [DecidableEq N] {R : Hp → V → N → Prop} {key : N → NestedKey} {after : N → Int → N × Int} {rl : Hp → Addr → Prop} {Ca fA : Addr} {spA : Sp} (hn : Nk R key) (hA : Rul PG w K mg base R after rl Ca fA spA) : Fn PG w K mg base 8 (me K "Web" "__init__") (sp_Web_init w R key after rl K) := by
  obtain ⟨fd, F⟩ := T.fn _ m_Web_init
  refine fn_mk F (F.bindsN fun _ _ _ _ _ _ us hl => match us, hl with | [_, _, _, _], _ => rfl) sc_Web_init (fun vs H Q E h => by obtain ⟨x, dx, mv, r, v, n, ms, S, g, rfl, hx, gd, hnS, hR, hmv, hm3, hrl, q⟩ := h; rfl) ?_
  intro cdv A outer s H vs Q E hr h
  refine ⟨_, PSs.nox (pss_cons (ps_fld (pv 0) (pe_lst (pa_cons (pv 1) pa_nil)) rfl)
    (pss_cons (ps_fld (pv 0) (pe_dispN (hu_le hr) (pv 1) pe_int) rfl)
    (pss_cons (ps_fld (pv 0) (pe_lst pa_nil) rfl)
    (pss_cons (ps_fld (pv 0) (pe_lst (pa_cons pe_non pa_nil)) rfl)
    (pss_one (ps_while PassesOwn.never (pt_cmpR op_lt (pe_callB call_len_seq rfl (T.f "len") (by decide +kernel) (pa_cons (pe_fld (pv 0) rfl) pa_nil)) (pe_callB call_len_seq rfl (T.f "len") (by decide +kernel) (pa_cons (pe_fld (pv 0) rfl) pa_nil)) (nomark _)) (pss_cons (ps_set (i := 4) sc_Web_init.nd rfl (Or.inl rfl) (pe_callB call_len_seq rfl (T.f "len") (by decide +kernel) (pa_cons (pe_fld (pv 0) rfl) pa_nil)))
    (pss_cons (ps_set (i := 5) sc_Web_init.nd rfl (Or.inl rfl) (pe_lst pa_nil))
    (pss_cons (ps_for PassesOwn.never rfl (pi_list (pv 2)) (pg_name (i := 6) sc_Web_init.nd rfl (Or.inl rfl)) (pss_cons (ps_set (i := 7) sc_Web_init.nd rfl (Or.inl rfl) (pe_ml (pv 3) hA.cls hA.meth hA.fn (hr.mono (by decide)) (fun _ => pas0) (pa_cons (pe_ix ix_list (pe_fld (pv 0) rfl) (pv 4) (fun _ _ => rfl)) (pa_cons (pv 6) pa_nil))))
    (pss_one (ps_if (pt_cmpR op_notN (pv 7) pe_non (nomark _)) (pss_one (ps_expr (pe_bm PySem.F.plainAttrs_list PySem.F.slot_list_append PySem.F.type_list_append mt_append (pv 5) (pa_cons (pe_tup (pa_cons (pe_ml (pv 0) (T.cls "Web" (by decide +kernel)) (T.meth "Web" "place_of" (by decide +kernel)) (ok_Web_place_of T hn) (hr.mono (by decide)) (fun _ => pas0) (pa_cons (pe_ix ix_tup (pv 7) pe_int (fun _ _ => rfl)) (pa_cons (pv 4) (pa_cons (pv 6) pa_nil)))) (pa_cons (pe_ix ix_tup (pv 7) pe_int (fun _ _ => rfl)) (pa_cons (pv 6) pa_nil)))) pa_nil)))) pss_nil))))
    (pss_one (ps_expr (pe_bm PySem.F.plainAttrs_list PySem.F.slot_list_append PySem.F.type_list_append mt_append (pe_fld (pv 0) rfl) (pa_cons (pv 5) pa_nil))))))))))))), ?_⟩
  obtain ⟨x, dx, mv, r, v, n, ms, S, g, rfl, hx, gd, hnS, hR, hmv, hm3, hrl, q⟩ := h
  obtain ⟨a, rfl, hk0, hd⟩ := hn.nk hR
  walk_at "rd"
  refine ⟨by show 1 ≤ sizeLine; decide, fun ln hln => ?_⟩
  have nxl : x ≠ ln := ne_of_none hx hln
  generalize e1 : upd H ln _ = H1
  have x1 : H1 x = some (.ins (ga K "Web") dx []) := by rw [← e1, upd_ne nxl]; exact hx
  have l1 : H1 ln = some (.lst [.ref a]) := by rw [← e1]; exact upd_same
  have d1 : dl [ln, x] H1 = dl [x] H := by rw [← e1]; exact dl_new hln
  walk_at "rd"
  generalize e2 : upd H1 x _ = H2
  have x2 : H2 x = some (.ins (ga K "Web") dx [("nodes", .ref ln)]) := by rw [← e2]; exact upd_same
  have l2 : H2 ln = some (.lst [.ref a]) := by rw [← e2, upd_ne (Ne.symm nxl)]; exact l1
  have d2 : dl [ln, x] H2 = dl [x] H := by rw [← e2, dl_upd_in (by simp)]; exact d1
  intro pd hpd
  have nxp : x ≠ pd := ne_of_none x2 hpd
  have nlp : ln ≠ pd := ne_of_none l2 hpd
  generalize e3 : upd H2 pd _ = H3
  have x3 : H3 x = some (.ins (ga K "Web") dx [("nodes", .ref ln)]) := by rw [← e3, upd_ne nxp]; exact x2
  have l3 : H3 ln = some (.lst [.ref a]) := by rw [← e3, upd_ne nlp]; exact l2
  have p3 : H3 pd = some (nd PG w pd []) := by rw [← e3]; exact upd_same
  have d3 : dl [pd, ln, x] H3 = dl [x] H := by rw [← e3, dl_new hpd]; exact d2
  have k3 : NK H3 (key n) (.ref a) := NK.mono dl_le (d3 ▸ hk0)
  walk_at "rd"
  refine ⟨p3, a, key n, 0, rfl, rfl, k3, hd, ?_⟩
  generalize e4 : upd H3 pd _ = H4
  have x4 : H4 x = some (.ins (ga K "Web") dx [("nodes", .ref ln)]) := by rw [← e4, upd_ne nxp]; exact x3
  have l4 : H4 ln = some (.lst [.ref a]) := by rw [← e4, upd_ne nlp]; exact l3
  have p4 : H4 pd = some (nd PG w pd (ents key 0 [.ref a] [n])) := by rw [← e4]; exact upd_same
  have d4 : dl [pd, ln, x] H4 = dl [x] H := by rw [← e4, dl_upd_in (by simp)]; exact d3
  walk_at "rd"
  generalize e5 : upd H4 x _ = H5
  have x5 : H5 x = some (.ins (ga K "Web") dx [("nodes", .ref ln), ("places", .ref pd)]) := by rw [← e5]; exact upd_same
  have l5 : H5 ln = some (.lst [.ref a]) := by rw [← e5, upd_ne (Ne.symm nxl)]; exact l4
  have p5 : H5 pd = some (nd PG w pd (ents key 0 [.ref a] [n])) := by rw [← e5, upd_ne (Ne.symm nxp)]; exact p4
  have d5 : dl [pd, ln, x] H5 = dl [x] H := by rw [← e5, dl_upd_in (by simp)]; exact d4
  refine ⟨Nat.zero_le _, fun ls hls => ?_⟩
  have nxs : x ≠ ls := ne_of_none x5 hls
  have nls : ln ≠ ls := ne_of_none l5 hls
  have nps : pd ≠ ls := ne_of_none p5 hls
  generalize e6 : upd H5 ls _ = H6
  have x6 : H6 x = some (.ins (ga K "Web") dx [("nodes", .ref ln), ("places", .ref pd)]) := by rw [← e6, upd_ne nxs]; exact x5
  have l6 : H6 ln = some (.lst [.ref a]) := by rw [← e6, upd_ne nls]; exact l5
  have p6 : H6 pd = some (nd PG w pd (ents key 0 [.ref a] [n])) := by rw [← e6, upd_ne nps]; exact p5
  have s6 : H6 ls = some (.lst []) := by rw [← e6]; exact upd_same
  have d6 : dl [ls, pd, ln, x] H6 = dl [x] H := by rw [← e6, dl_new hls]; exact d5
  walk_at "rd"
  generalize e7 : upd H6 x _ = H7
  have x7 : H7 x = some (.ins (ga K "Web") dx [("nodes", .ref ln), ("places", .ref pd), ("steps", .ref ls)]) := by rw [← e7]; exact upd_same
  have l7 : H7 ln = some (.lst [.ref a]) := by rw [← e7, upd_ne (Ne.symm nxl)]; exact l6
  have p7 : H7 pd = some (nd PG w pd (ents key 0 [.ref a] [n])) := by rw [← e7, upd_ne (Ne.symm nxp)]; exact p6
  have s7 : H7 ls = some (.lst []) := by rw [← e7, upd_ne (Ne.symm nxs)]; exact s6
  have d7 : dl [ls, pd, ln, x] H7 = dl [x] H := by rw [← e7, dl_upd_in (by simp)]; exact d6
  refine ⟨by show 1 ≤ sizeLine; decide, fun lo hlo => ?_⟩
  have nxo : x ≠ lo := ne_of_none x7 hlo
  have nlo : ln ≠ lo := ne_of_none l7 hlo
  have npo : pd ≠ lo := ne_of_none p7 hlo
  have nso : ls ≠ lo := ne_of_none s7 hlo
  generalize e8 : upd H7 lo _ = H8
  have x8 : H8 x = some (.ins (ga K "Web") dx [("nodes", .ref ln), ("places", .ref pd), ("steps", .ref ls)]) := by rw [← e8, upd_ne nxo]; exact x7
  have l8 : H8 ln = some (.lst [.ref a]) := by rw [← e8, upd_ne nlo]; exact l7
  have p8 : H8 pd = some (nd PG w pd (ents key 0 [.ref a] [n])) := by rw [← e8, upd_ne npo]; exact p7
  have s8 : H8 ls = some (.lst []) := by rw [← e8, upd_ne nso]; exact s7
  have o8 : H8 lo = some (.lst [.non]) := by rw [← e8]; exact upd_same
  have d8 : dl [lo, ls, pd, ln, x] H8 = dl [x] H := by rw [← e8, dl_new hlo]; exact d7
  walk_at "rd"
  generalize e9 : upd H8 x _ = H9
  have x9 : H9 x = some (.ins (ga K "Web") dx (webF ln pd ls lo)) := by rw [← e9]; exact upd_same
  have l9 : H9 ln = some (.lst [.ref a]) := by rw [← e9, upd_ne (Ne.symm nxl)]; exact l8
  have p9 : H9 pd = some (nd PG w pd (ents key 0 [.ref a] [n])) := by rw [← e9, upd_ne (Ne.symm nxp)]; exact p8
  have s9 : H9 ls = some (.lst []) := by rw [← e9, upd_ne (Ne.symm nxs)]; exact s8
  have o9 : H9 lo = some (.lst [.non]) := by rw [← e9, upd_ne (Ne.symm nxo)]; exact o8
  have d9 : dl [lo, ls, pd, ln, x] H9 = dl [x] H := by rw [← e9, dl_upd_in (by simp)]; exact d8
  clear d1 d2 d3 d4 d5 d6 d7 d8 x1 x2 x3 x4 x5 x6 x7 x8 l1 l2 l3 l4 l5 l6 l7 l8 p3 p4 p5 p6 p7 p8 s6 s7 s8 o8 k3
  clear e1 e2 e3 e4 e5 e6 e7 e8 e9
  refine while_m (fun m σ H' => ∃ (wb : Wb N) (nvs : List V) (ovs : List V) (svs : List V) (v1 v2 v3 v4 : Option V), σ = [some (.ref x), some (.ref a), some (.ref mv), some (.ref r), v1, v2, v3, v4] ∧ m = 600 - wb.steps.length ∧ WOk ms S g wb ∧ build after ms (600 - wb.steps.length) wb = web after ms n ∧
    H' x = some (.ins (ga K "Web") dx (webF ln pd ls lo)) ∧ H' ln = some (.lst nvs) ∧ H' pd = some (nd PG w pd (ents key 0 nvs wb.nodes)) ∧ H' ls = some (.lst svs) ∧ H' lo = some (.lst ovs) ∧
    Same (dl [x] H) (dl [lo, ls, pd, ln, x] H') ∧ Paired (R (dl [lo, ls, pd, ln, x] H')) nvs wb.nodes ∧ Paired (OgAt (dl [lo, ls, pd, ln, x] H')) ovs wb.orig ∧ Paired (LsAt (dl [lo, ls, pd, ln, x] H')) svs wb.steps)
    ⟨_, ⟨[n], [], [none]⟩, _, _, _, _, _, _, _, rfl, rfl, WOk.start hnS, rfl, x9, l9, p9, s9, o9, d9 ▸ Same.refl _, .cons (by rw [d9]; exact hR) .nil, .cons rfl .nil, .nil⟩ (fun m σ H' h => ?_) (fun σ H Q Q' h z => ?_)
  · obtain ⟨wb, nvs, ovs, svs, v1, v2, v3, v4, rfl, rfl, ok, hb, x1, l1, p1, s1, o1, S1, hnv, hov, hsv⟩ := h
    walk_at "rd"
    have hls : svs.length = wb.steps.length := Paired.length hsv
    have hll : nvs.length = wb.nodes.length := Paired.length hnv
    refine ite_d (fun c => ?_) (fun c => ?_)
    · have hw : wb.steps.length < wb.nodes.length := by omega
      obtain ⟨y, hy, hyS⟩ := ok.at hw
      walk_at "rd"
      refine ⟨Nat.zero_le _, fun lf hlf => ?_⟩
      have nxf : x ≠ lf := ne_of_none x1 hlf
      have nlf : ln ≠ lf := ne_of_none l1 hlf
      have npf : pd ≠ lf := ne_of_none p1 hlf
      have nsf : ls ≠ lf := ne_of_none s1 hlf
      have nof : lo ≠ lf := ne_of_none o1 hlf
      have mv1 : H' mv = some (.lst (ms.map V.int)) := dl_le _ _ (S1 _ _ hmv)
      have nmf : mv ≠ lf := ne_of_none mv1 hlf
      generalize e2 : upd H' lf _ = H2
      have x2 : H2 x = some (.ins (ga K "Web") dx (webF ln pd ls lo)) := by rw [← e2, upd_ne nxf]; exact x1
      have l2 : H2 ln = some (.lst nvs) := by rw [← e2, upd_ne nlf]; exact l1
      have p2 : H2 pd = some (nd PG w pd (ents key 0 nvs wb.nodes)) := by rw [← e2, upd_ne npf]; exact p1
      have s2 : H2 ls = some (.lst svs) := by rw [← e2, upd_ne nsf]; exact s1
      have o2 : H2 lo = some (.lst ovs) := by rw [← e2, upd_ne nof]; exact o1
      have f2 : H2 lf = some (.lst []) := by rw [← e2]; exact upd_same
      have mv2 : H2 mv = some (.lst (ms.map V.int)) := by rw [← e2, upd_ne nmf]; exact mv1
      have d2 : dl [lf, lo, ls, pd, ln, x] H2 = dl [lo, ls, pd, ln, x] H' := by rw [← e2]; exact dl_new hlf
      walk_at "rd"
      refine for_it (walk_list (xs := ms.map V.int)) (fun i σ H3 => (∃ v3 v4, σ = [some (.ref x), some (.ref a), some (.ref mv), some (.ref r), some (.int (svs.length : Nat)), some (.ref lf), v3, v4]) ∧
        WIn w R key K x dx ln pd ls lo lf svs H' wb ms S g i ((ms.take i).foldl (put1 after wb.steps.length y) ⟨wb.nodes, wb.orig, []⟩) H3)
        ⟨⟨_, _, rfl⟩, ok.inn, List.prefix_refl _, x2, s2, d2 ▸ Same.refl _, ⟨nvs, ovs, l2, d2 ▸ hnv, p2, o2, d2 ▸ hov⟩, [], f2, rfl, .nil⟩ (fun i σ H3 _ h => ?_) (fun i v σ H3 H4 hi h hy => ?_) fun σ H3 h => ?_
      · exact SqL.of (dl_le _ _ (h.2.same _ _ (S1 _ _ hmv)))
      · obtain ⟨e34, hxi⟩ := hy
        subst H4
        obtain ⟨m', hmi, rfl⟩ : ∃ m', ms[i]? = some m' ∧ v = .int m' := by
          rw [List.getElem?_map] at hxi
          cases e : ms[i]? with
          | none => rw [e] at hxi; cases hxi
          | some z => rw [e] at hxi; exact ⟨z, rfl, (Option.some.inj hxi).symm⟩
        obtain ⟨⟨v3, v4, rfl⟩, h⟩ := h
        have hstep := foldl_take_succ (put1 after wb.steps.length y) (⟨wb.nodes, wb.orig, []⟩ : In N) hmi
        generalize (ms.take i).foldl (put1 after wb.steps.length y) (⟨wb.nodes, wb.orig, []⟩ : In N) = st at h hstep
        have iok := h.ok
        have pre := h.pre
        have x3 := h.hx
        have s3 := h.hs
        have S3 := h.same
        obtain ⟨nvs', ovs', l3, hnv3, p3, o3, hov3⟩ := h.np.st
        obtain ⟨fvs, f3, hfi, hfv3⟩ := h.fd
        have hmem : m' ∈ ms := List.mem_of_getElem? hmi
        have iok' := iok.put gd hw hyS hmem
        have hrl3 : rl H3 r := hA.mono dl_le (hA.mono (S1.trans S3) hrl)
        obtain ⟨da, fa, ha, la⟩ := hA.ins hrl3
        obtain ⟨vx, hvx, hRx⟩ := K56.Paired.get hnv3 (pre_at pre hy)
        walk_at "rd"
        refine ⟨la, ?_⟩
        walk_at "rd"
        refine ⟨_, _, _, _, rfl, rfl, SqL.of l3, atI_nat (hls ▸ hvx), ?_⟩
        walk_at "rd"
        refine hA.run hrl3 (hn.mono dl_le hRx) (fun H5 pp v' S5 hv' hpp => ?_)
        have x5 := S5 _ _ x3
        have f5 := S5 _ _ f3
        have l5 := S5 _ _ l3
        have p5 := S5 _ _ p3
        have s5 := S5 _ _ s3
        have o5 := S5 _ _ o3
        have hNT : NoTup [lf, lo, ls, pd, ln, x] H5 := .cons f5 (fun _ z => nomatch z) (.cons o5 (fun _ z => nomatch z) (.cons s5 (fun _ z => nomatch z) (.cons p5 (fun xs z => by have z' : HO.ext _ = HO.tup xs := z; cases z') (.cons l5 (fun _ z => nomatch z) (.cons x5 (fun _ z => nomatch z) .nil)))))
        have S5d : Same (dl [lf, lo, ls, pd, ln, x] H3) (dl [lf, lo, ls, pd, ln, x] H5) := Same.dl S5
        walk_at "rd"
        refine ⟨x, dx, ln, pd, ls, lo, v', (after y m').1, wb.steps.length, m', [lf, lo, ls, pd, ln, x], st.nodes, st.orig, by rw [hls], x5, ⟨by simp, by simp, by simp, nlo⟩, hNT, ⟨nvs', ovs', l5, K56.Paired.imp (fun _ _ z => hn.mono S5d z) hnv3, p5, o5, K56.Paired.imp (fun _ _ z => OgAt.mono S5d z) hov3⟩, hn.dl hNT hv', iok.nd, iok.small gd, iok.ol, fun H6 kp S6 np6 => ?_⟩
        have hpp6 := kp pp _ (ne_of hpp l5 (fun z => nomatch z)) (ne_of hpp p5 (fun z => by have z' : HO.tup _ = HO.ext _ := z; cases z')) (ne_of hpp o5 (fun z => nomatch z)) hpp
        have x6 := kp x _ nxl nxp nxo x5
        have s6 := kp ls _ (Ne.symm nls) (Ne.symm nps) nso s5
        have f6 := kp lf _ (Ne.symm nlf) (Ne.symm npf) (Ne.symm nof) f5
        walk_at "rd"
        refine ⟨by show 3 ≤ sizeLine; decide, fun t ht => ?_⟩
        generalize e7 : upd H6 t _ = H7
        have S7 : Same H6 H7 := e7 ▸ same_new ht
        have t7 : H7 t = some (.tup [.int ((place wb.steps.length m' (after y m').1 st.nodes st.orig).2.2 : Nat), .int (after y m').2, .int m']) := e7 ▸ upd_same
        have f7 := S7 _ _ f6
        refine ⟨_, _, _, rfl, rfl, f7, by rw [sizeLine_eq]; have : i < ms.length := by simpa using hi
                                          omega, ?_⟩
        obtain ⟨nvs6, ovs6, l6, hnv6, p6, o6, hov6⟩ := np6.st
        have hNT6 : NoTup [lf, lo, ls, pd, ln, x] H6 := .cons f6 (fun _ z => nomatch z) (.cons o6 (fun _ z => nomatch z) (.cons s6 (fun _ z => nomatch z) (.cons p6 (fun xs z => by have z' : HO.ext _ = HO.tup xs := z; cases z') (.cons l6 (fun _ z => nomatch z) (.cons x6 (fun _ z => nomatch z) .nil)))))
        have tM := hNT6.fresh ht
        have ntf : t ≠ lf := ne_of t7 f7 (fun z => nomatch z)
        generalize e8 : upd H7 lf _ = H8
        have d8 : Same (dl [lf, lo, ls, pd, ln, x] H6) (dl [lf, lo, ls, pd, ln, x] H8) := by
          rw [← e8, dl_upd_in (by simp)]
          exact Same.dl S7
        refine ⟨⟨_, _, rfl⟩, ?_⟩
        rw [hstep]
        refine ⟨iok', pre.trans place_pre, by rw [← e8, upd_ne nxf]; exact S7 _ _ x6, by rw [← e8, upd_ne nsf]; exact S7 _ _ s6, S3.trans (S5d.trans (S6.trans d8)),
          ⟨nvs6, ovs6, by rw [← e8, upd_ne nlf]; exact S7 _ _ l6, K56.Paired.imp (fun _ _ z => hn.mono d8 z) hnv6, by rw [← e8, upd_ne npf]; exact S7 _ _ p6, by rw [← e8, upd_ne nof]; exact S7 _ _ o6, K56.Paired.imp (fun _ _ z => OgAt.mono d8 z) hov6⟩,
          fvs ++ [.ref t], by rw [← e8]; exact upd_same, by rw [List.length_append, hfi]; rfl, (K56.Paired.imp (fun _ _ z => SpAt.mono (S5d.trans (S6.trans d8)) z) hfv3).snoc ⟨t, rfl, ?_⟩⟩
        rw [dl_out tM, ← e8, upd_ne ntf]
        exact t7
      · obtain ⟨⟨v3, v4, rfl⟩, h⟩ := h
        have e0 : ms.take (ms.map V.int).length = ms := by simp
        rw [e0] at h
        have ht : turn after ms wb = ⟨(turnAt after ms wb.steps.length y wb).nodes, wb.steps ++ [(turnAt after ms wb.steps.length y wb).found], (turnAt after ms wb.steps.length y wb).orig⟩ := by
          unfold turn
          rw [hy]
        have ok' := ok.turn gd hw
        have hb' := (build_turn gd ok hw).trans hb
        have hlen' := turn_len (after := after) ok hw
        have hsm := ok.small gd
        replace h : WIn w R key K x dx ln pd ls lo lf svs H' wb ms S g _ (turnAt after ms wb.steps.length y wb) H3 := h
        generalize turnAt after ms wb.steps.length y wb = st at h ht
        have x3 := h.hx
        have s3 := h.hs
        have S3 := h.same
        obtain ⟨nvs', ovs', l3, hnv3, p3, o3, hov3⟩ := h.np.st
        obtain ⟨fvs, f3, hfi, hfv3⟩ := h.fd
        have lfM : lf ∉ [lo, ls, pd, ln, x] := by simp [Ne.symm nof, Ne.symm nsf, Ne.symm npf, Ne.symm nlf, Ne.symm nxf]
        walk_at "rd"
        refine ⟨_, _, _, rfl, rfl, s3, by rw [sizeLine_eq]; omega, ?_⟩
        generalize e4 : upd H3 ls _ = H4
        have d4 : Same (dl [lf, lo, ls, pd, ln, x] H3) (dl [lo, ls, pd, ln, x] H4) := by
          rw [← e4, dl_upd_in (by simp)]
          exact dl_less
        have f4 : H4 lf = some (.lst fvs) := by rw [← e4, upd_ne (Ne.symm nsf)]; exact f3
        refine ⟨600 - (turn after ms wb).steps.length, by omega, turn after ms wb, nvs', ovs', svs ++ [.ref lf], _, _, _, _, rfl, rfl, ok', hb', by rw [← e4, upd_ne nxs]; exact x3, by rw [← e4, upd_ne nls]; exact l3, by rw [← e4, upd_ne nps, ht]; exact p3, by rw [← e4]; exact upd_same, by rw [← e4, upd_ne (Ne.symm nso)]; exact o3,
          S1.trans (S3.trans d4), by rw [ht]; exact K56.Paired.imp (fun _ _ z => hn.mono d4 z) hnv3, by rw [ht]; exact K56.Paired.imp (fun _ _ z => OgAt.mono d4 z) hov3, ?_⟩
        rw [ht]
        exact (K56.Paired.imp (fun _ _ z => LsAt.mono (S3.trans d4) z) hsv).snoc ⟨lf, fvs, rfl, by rw [dl_out lfM]; exact f4, K56.Paired.imp (fun _ _ z => SpAt.mono d4 z) hfv3⟩
    · have hw : ¬ wb.steps.length < wb.nodes.length := by omega
      rw [build_end hw] at hb
      subst hb
      walk_at "rd"
      exact q H' (S1.trans dl_le) ⟨dx, ln, pd, ls, lo, svs, ovs, x1, s1, K56.Paired.imp (fun _ _ z => LsAt.mono dl_le z) hsv, o1, K56.Paired.imp (fun _ _ z => OgAt.mono dl_le z) hov⟩
  · exact mono_test (mono_I0 (mono_len (mono_cons (mono_fld mono_var) mono_nil)) (mono_len (mono_cons (mono_fld mono_var) mono_nil))) _ _ _ _ h z
end
end K56
namespace K56
open PySem PySem.Spec PyProof.Rows L2
local macro_rules | `(tactic| walk_at "rd") => `(tactic| repeat (first | (refine ⟨_, rfl, ?_⟩) | (refine ⟨_, _, rfl, rfl, ?_⟩) | (refine ⟨rfl, ?_⟩) | (refine ⟨_, (by assumption : _ = some (HO.tup _)), ?_⟩) | (refine ⟨_, _, _, _, rfl, rfl, SqT.of (by assumption), rfl, ?_⟩) | (refine ⟨_, _, _, _, rfl, rfl, SqL.of (by assumption), rfl, ?_⟩) | (refine ⟨_, _, rfl, .inr (SqT.of (by assumption)), ?_⟩) | (refine ⟨_, _, rfl, .inl (SqL.of (by assumption)), ?_⟩) | (refine ⟨_, _, rfl, SqT.of (by assumption), rfl, ?_⟩) | (refine ⟨_, _, _, _, _, rfl, (by assumption : _ = some (HO.ins _ _ _)), Tx.cls (by assumption) _ (by decide +kernel), Tx.noat (by assumption) _ _ (by decide +kernel), rfl, ?_⟩) | (refine ⟨_, _, _, rfl, (by assumption : _ = some (HO.ins _ _ _)), _, _, rfl, (by assumption : ClAt _ _ _ _), ?_⟩) | (refine ⟨_, _, _, _, rfl, (by assumption : _ = some (HO.ins _ _ _)), Tx.cls (by assumption) _ (by decide +kernel), Tx.noat (by assumption) _ _ (by decide +kernel), Nat.le_of_ble_eq_true rfl, ?_⟩) | (refine ⟨_, _, rfl, SqT.of (by assumption), ?_⟩) | (refine ⟨_, _, rfl, SqL.of (by assumption), ?_⟩) | (refine ⟨_, _, rfl, ?_⟩) | (refine ⟨_, _, _, rfl, (by assumption : _ = some (HO.ins _ _ _)), ?_⟩) | (refine ⟨_, _, _, rfl, (by assumption : _ = some (HO.tup _)), ?_⟩) | (refine ⟨_, _, _, rfl, (by assumption : ClAt _ _ _ _), ?_⟩) | (refine ⟨_, _, _, _, _, rfl, (by assumption : ClAt _ _ _ _), (by assumption : _ = some (HO.tup _)), ?_⟩) | (refine ⟨.inl ⟨rfl, _, SqL.of (by assumption)⟩, ?_⟩) | (refine ⟨⟨_, SqL.of (by assumption)⟩, ?_⟩) | (refine ⟨⟨_, SqT.of (by assumption)⟩, ?_⟩) | (with_reducible refine ite_t ?kc ?kg; (case kc => simp; done)) | (with_reducible refine ite_f ?kc ?kg; (case kc => simp; done))))
local macro_rules | `(tactic| walk_at "sc") => `(tactic| exact ⟨rfl, rfl, rfl, by decide +kernel, rfl, by decide +kernel, by decide +kernel⟩)
section
variable {w : World} {K : PySem.W.Frag} {mg : Str → Option Value} {base : Heap}
def sp_greater : Sp := fun vs H Q _ => ∃ (a b : OI), vs = [ov a, ov b] ∧ Q (ov (greater a b)) H
theorem sc_greater : FnScope ["known", "fresh"] ["known", "fresh"] (defScope s_greater) := by walk_at "sc"
theorem ok_greater (T : Tx w K mg) : Fn PG w K mg base 1 (ga K "greater") sp_greater := by
  obtain ⟨fd, F⟩ := T.fn _ m_greater
  refine fn_mk F (F.bindsN fun _ _ _ _ _ _ us hl => match us, hl with | [_, _], _ => rfl) sc_greater (fun vs H Q E h => by obtain ⟨a, b, rfl, q⟩ := h; rfl) ?_
  intro cdv A outer s H vs Q E hr h
  refine ⟨_, PSs.nox (pss_cons (ps_if (PW.pt (pw_or (pt_cmpR op_isN (pv 0) pe_non (nomark _)) (pw_or1 (pt_cmpR op_isN (pv 1) pe_non (nomark _))))) (pss_one (ps_ret (pe_ifExp (pt_cmpR op_isN (pv 0) pe_non (nomark _)) (pv 1) (pv 0)))) pss_nil)
    (pss_one (ps_ret (pe_callB (call_max2 rfl) rfl (T.f "max") (by decide +kernel) (pa_cons (pv 0) (pa_cons (pv 1) pa_nil)))))), ?_⟩
  obtain ⟨a, b, rfl, q⟩ := h
  cases a with
  | none =>
    cases b with
    | none =>
      walk_at "rd"
      exact q
    | some j =>
      walk_at "rd"
      exact q
  | some i =>
    cases b with
    | none =>
      walk_at "rd"
      exact q
    | some j =>
      walk_at "rd"
      exact q
def sp_started : Sp := fun vs H Q _ => ∃ (l : Addr) (svs : List V), vs = [.ref l] ∧ H l = some (.lst svs) ∧ svs.length ≤ 1000 ∧ ∀ H' p, Same H H' → H p = none → H' p = some (.lst ((started svs.length).map ov)) → Q (.ref p) H'
theorem sc_started : FnScope ["steps", "place"] ["steps"] (defScope s_started) := by walk_at "sc"
theorem ok_started (T : Tx w K mg) : Fn PG w K mg base 1 (ga K "started") sp_started := by
  obtain ⟨fd, F⟩ := T.fn _ m_started
  refine fn_mk F (F.bindsN fun _ _ _ _ _ _ us hl => match us, hl with | [_], _ => rfl) sc_started (fun vs H Q E h => by obtain ⟨l, svs, rfl, hl, hz, q⟩ := h; rfl) ?_
  intro cdv A outer s H vs Q E hr h
  refine ⟨_, PSs.nox (pss_one (ps_ret (pe_lc (own := [("place", 1)]) (g := gName 1) rfl sc_started.nd (pi_range1 rfl (T.f "range") (pa_cons (pe_callB call_len_seq rfl (T.f "len") (by decide +kernel) (pa_cons (pv 0) pa_nil)) pa_nil)) (blkOk_by (N := ["steps", "place"]) (sc := defScope s_started) (by decide +kernel)) (fun _ _ _ _ _ => (pg_name (i := 1) sc_started.nd rfl (Or.inl rfl))) (fun _ _ _ _ _ => pts_nil) (fun _ _ _ _ _ => (pe_ifExp (pt_cmpR op_eq (pv 1) pe_int (nomark _)) pe_int pe_non))))), ?_⟩
  obtain ⟨l, svs, rfl, hl, hz, q⟩ := h
  walk_at "rd"
  refine ⟨by omega, by omega, fun D hD => lc_it walk_range (fun i H' => Same H H' ∧ H' D = some (.lst ((started i).map ov))) ⟨same_new hD, upd_same⟩ (fun _ _ _ _ => True.intro) (fun i x H' H'' hi h hy => ?_) fun H' h => ?_⟩
  · obtain ⟨e, rfl⟩ := hy
    subst H''
    obtain ⟨S, hd⟩ := h
    have hst : started (i + 1) = started i ++ [if i = 0 then some 0 else none] := by
      unfold started
      rw [List.range_succ, List.map_append]
      rfl
    have fin : ∀ y, y = ov (if i = 0 then some 0 else none) → ∃ acc, H' D = some (.lst acc) ∧ acc.length < sizeLine ∧ (Same H (upd H' D (.lst (acc ++ [y]))) ∧ upd H' D (.lst (acc ++ [y])) D = some (.lst ((started (i + 1)).map ov))) := fun y e => by
      refine ⟨_, hd, ?_, ⟨fun b u e2 => ?_, ?_⟩⟩
      · rw [List.length_map, started_len, sizeLine_eq]
        have : i < svs.length := by simpa using hi
        omega
      · rw [upd_ne (ne_of_none e2 hD)]
        exact S _ _ e2
      · rw [upd_same, hst, List.map_append, e]
        rfl
    walk_at "rd"
    refine ite_d (fun c => ?_) (fun c => ?_)
    · exact fin _ (by rw [if_pos (by have := V.int.inj c; omega)]; rfl)
    · exact fin _ (by rw [if_neg (fun z => c (by rw [z]; rfl))]; rfl)
  · obtain ⟨S, hd⟩ := h
    exact q H' D S hD (by simpa using hd)
/-- one turn on the steps of one place -/
def sp_one_on : Sp := fun vs H Q _ => ∃ (l lb : Addr) (svs : List V) (steps : List (List Step)) (best : List OI), vs = [.ref l, .ref lb] ∧ H l = some (.lst svs) ∧ Paired (LsAt H) svs steps ∧ H lb = some (.lst (best.map ov)) ∧ best.length = steps.length ∧ best.length ≤ 1000 ∧ (∀ st ∈ steps, ∀ s ∈ st, s.1 < best.length) ∧
  ∀ H' p, Same H H' → H p = none → H' p = some (.lst ((oneOn steps best).map ov)) → Q (.ref p) H'
theorem sc_one_on : FnScope ["steps", "best", "known", "found", "here", "goal", "gain", "move"] ["steps", "best"] (defScope s_one_on) := by walk_at "sc"
theorem ok_one_on (T : Tx w K mg) : Fn PG w K mg base 1 (ga K "one_on") sp_one_on := by
  obtain ⟨fd, F⟩ := T.fn _ m_one_on
  refine fn_mk F (F.bindsN fun _ _ _ _ _ _ us hl => match us, hl with | [_, _], _ => rfl) sc_one_on (fun vs H Q E h => by obtain ⟨l, lb, svs, steps, best, rfl, hl, hsv, hb, hbl, hz, hgo, q⟩ := h; rfl) ?_
  intro cdv A outer s H vs Q E hr h
  refine ⟨_, PSs.nox (pss_cons (ps_setLc (i := 3) (own := [("known", 2)]) (g := gName 2) rfl sc_one_on.nd rfl rfl (sw_true rfl rfl rfl (by decide +kernel)) (pi_list (pv 1)) (blkOk_by (N := ["steps", "best", "known", "found", "here", "goal", "gain", "move"]) (sc := defScope s_one_on) (by decide +kernel)) (fun _ _ _ _ _ => (pg_name (i := 2) sc_one_on.nd rfl (Or.inl rfl))) (fun _ _ _ _ _ => pts_nil) (fun _ _ _ _ _ => pe_non))
    (pss_cons (ps_for PassesOwn.never rfl (pi_enum rfl (T.f "enumerate") (pa_cons (pv 1) pa_nil)) (pg_tup rfl (pgs_cons (pg_name (i := 4) sc_one_on.nd rfl (Or.inl rfl)) (pgs_cons (pg_name (i := 2) sc_one_on.nd rfl (Or.inl rfl)) pgs_nil))) (pss_one (ps_if (pt_cmpR op_notN (pv 2) pe_non (nomark _)) (pss_one (ps_for PassesOwn.never rfl (pi_list (pe_ix ix_list (pv 0) (pv 4) (fun _ _ => rfl))) (pg_tup rfl (pgs_cons (pg_name (i := 5) sc_one_on.nd rfl (Or.inl rfl)) (pgs_cons (pg_name (i := 6) sc_one_on.nd rfl (Or.inl rfl)) (pgs_cons (pg_name (i := 7) sc_one_on.nd rfl (Or.inl rfl)) pgs_nil)))) (pss_one (ps_if (PW.pt (pw_or (pt_cmpR op_isN (pe_ix ix_list (pv 3) (pv 5) (fun _ _ => rfl)) pe_non (nomark _)) (pw_or1 (pt_cmpR op_gt (pe_op op_add (pv 2) (pv 6)) (pe_ix ix_list (pv 3) (pv 5) (fun _ _ => rfl)) (nomark _))))) (pss_one (ps_asg (pe_op op_add (pv 2) (pv 6)) (pg_sub (pv 3) (pv 5) set_list))) pss_nil)))) pss_nil)))
    (pss_one (ps_ret (pv 3))))), ?_⟩
  obtain ⟨l, lb, svs, steps, best, rfl, hl, hsv, hb, hbl, hz, hgo, q⟩ := h
  walk_at "rd"
  intro D hD
  refine lc_it (walk_list (xs := best.map ov)) (fun i H' => Same H H' ∧ H' D = some (.lst ((best.take i).map fun _ => V.non))) ⟨same_new hD, upd_same⟩ (fun _ H' _ h => SqL.of (h.1 _ _ hb)) (fun i x H' H'' hi h hy => ?_) fun H' h => ?_
  · obtain ⟨e, _⟩ := hy
    subst H''
    obtain ⟨S, hd⟩ := h
    walk_at "rd"
    refine ⟨_, hd, ?_, fun b u e2 => ?_, ?_⟩
    · rw [List.length_map, List.length_take, sizeLine_eq]
      omega
    · rw [upd_ne (ne_of_none e2 hD)]
      exact S _ _ e2
    · rw [upd_same, List.take_add_one, List.map_append]
      have hi' : i < best.length := by simpa using hi
      rw [List.getElem?_eq_getElem hi']
      rfl
  · obtain ⟨S1, f1⟩ := h
    have f1' : H' D = some (.lst ((best.map fun _ => (none : OI)).map ov)) := by
      rw [f1]
      simp [ov]
    have hb1 := S1 _ _ hb
    walk_at "rd"
    refine for_it (walk_enum (xs := best.map ov)) (fun i σ H2 => (∃ v2 v4 v5 v6 v7, σ = [some (.ref l), some (.ref lb), v2, some (.ref D), v4, v5, v6, v7]) ∧ Same H H2 ∧ H2 D = some (.lst (((best.zipIdx.take i).foldl (relaxAll steps) (best.map fun _ => none)).map ov)))
      ⟨⟨_, _, _, _, _, rfl⟩, S1, f1'⟩ (fun _ _ H2 _ h => SqL.of (h.2.1 _ _ hb)) (fun i v σ H2 H3 hi h hy => ?_) fun σ H2 h => ?_
    · obtain ⟨⟨v2, v4, v5, v6, v7, rfl⟩, S2, f2⟩ := h
      obtain ⟨Tt, xx, yy, rfl, hT, rfl, e5, e6⟩ := hy
      have e5' := Option.some.inj e5
      subst e5'
      have hi' : i < best.length := by simpa using hi
      have hbi : best[i]? = some best[i] := List.getElem?_eq_getElem hi'
      have ey : yy = ov best[i] := by
        have e7 : (best.map ov)[i]? = some yy := e6
        rw [List.getElem?_map, hbi] at e7
        exact (Option.some.inj e7).symm
      have hzi : best.zipIdx[i]? = some (best[i], i) := by
        rw [List.getElem?_zipIdx, hbi]
        simp
      have hstep := foldl_take_succ (relaxAll steps) (best.map fun _ => (none : OI)) hzi
      have hfl : ((best.zipIdx.take i).foldl (relaxAll steps) (best.map fun _ => (none : OI))).length = best.length := by rw [relaxAlls_len, List.length_map]
      generalize (best.zipIdx.take i).foldl (relaxAll steps) (best.map fun _ => (none : OI)) = f at f2 hstep hfl
      have nDT : D ≠ Tt := ne_of_none f2 hT
      generalize e3 : upd H2 Tt _ = H3
      have S3 : Same H H3 := S2.trans (e3 ▸ same_new hT)
      have u3 : H3 Tt = _ := e3 ▸ upd_same
      have f3 : H3 D = some (.lst (f.map ov)) := by rw [← e3, upd_ne nDT]; exact f2
      rw [hstep]
      subst ey
      have hra : ∀ z, relaxAll steps f (best[i], i) = (match (best[i] : OI) with | none => f | some k => (steps.getD i []).foldl (relax k) f) := fun _ => rfl
      cases hk : (best[i] : OI) with
      | none =>
        rw [hk] at u3
        walk_at "rd"
        exact ⟨⟨_, _, _, _, _, rfl⟩, S3, f3⟩
      | some k =>
        rw [hk] at u3
        have hsl : svs.length = steps.length := Paired.length hsv
        have hsi : steps[i]? = some (steps[i]'(by omega)) := List.getElem?_eq_getElem _
        obtain ⟨vl, hvl, al, vs, rfl, hal, hvs⟩ := K56.Paired.get hsv hsi
        have hmem := List.mem_of_getElem? hsi
        have hgd : steps.getD i [] = steps[i]'(by omega) := by rw [List.getD_eq_getElem?_getD, hsi]; rfl
        have hl3 := S3 _ _ hl
        have hal3 := S3 _ _ hal
        walk_at "rd"
        refine ⟨_, _, _, _, rfl, rfl, SqL.of hl3, atI_nat hvl, ?_⟩
        walk_at "rd"
        refine for_it (walk_list (xs := vs)) (fun j σ H4 => (∃ v5 v6 v7, σ = [some (.ref l), some (.ref lb), some (.int k), some (.ref D), some (.int (i : Nat)), v5, v6, v7]) ∧ Same H H4 ∧ H4 D = some (.lst ((((steps[i]'(by omega)).take j).foldl (relax k) f).map ov)))
          ⟨⟨_, _, _, rfl⟩, S3, f3⟩ (fun _ _ H4 _ h => SqL.of (h.2.1 _ _ hal)) (fun j v σ H4 H5 hj h hy => ?_) fun σ H4 h => ?_
        · obtain ⟨e45, hvj⟩ := hy
          subst H5
          obtain ⟨⟨v5, v6, v7, rfl⟩, S4, f4⟩ := h
          have hvsl : vs.length = (steps[i]'(by omega)).length := Paired.length hvs
          have hstj : (steps[i]'(by omega))[j]? = some ((steps[i]'(by omega))[j]'(by omega)) := List.getElem?_eq_getElem _
          obtain ⟨vt, hvt, t, rfl, ht⟩ := K56.Paired.get hvs hstj
          rw [hvt] at hvj
          obtain rfl := Option.some.inj hvj
          have hstep2 := foldl_take_succ (relax k) f hstj
          have hgj := hgo _ hmem _ (List.mem_of_getElem? hstj)
          have hfl2 : (((steps[i]'(by omega)).take j).foldl (relax k) f).length = best.length := by rw [relaxs_len, hfl]
          rw [hstep2]
          generalize ((steps[i]'(by omega)).take j).foldl (relax k) f = f' at f4 hfl2
          generalize (steps[i]'(by omega))[j]'(by omega) = st at ht hgj
          have ht4 := S4 _ _ ht
          have hfg : f'[st.1]? = some (f'[st.1]'(by omega)) := List.getElem?_eq_getElem _
          have hfv : (f'.map ov)[st.1]? = some (ov (f'[st.1]'(by omega))) := by rw [List.getElem?_map, hfg]; rfl
          have hix : ixN (f'.map ov).length (st.1 : Int) = some st.1 := ixN_nat (by rw [List.length_map]; omega)
          have fin : ∀ z, relax k f' st = f'.set st.1 (some z) → Same H (upd H4 D (.lst ((f'.map ov).set st.1 (.int z)))) ∧ upd H4 D (.lst ((f'.map ov).set st.1 (.int z))) D = some (.lst ((relax k f' st).map ov)) := fun z e => by
            refine ⟨fun b u e2 => ?_, ?_⟩
            · rw [upd_ne (ne_of_none e2 hD)]
              exact S4 _ _ e2
            · rw [upd_same, e, List.map_set]
              rfl
          cases hv : (f'[st.1]'(by omega) : OI) with
          | none =>
            have rel : relax k f' st = f'.set st.1 (some (k + st.2.1)) := by
              unfold relax
              rw [hfg, hv]
            rw [hv] at hfv
            walk_at "rd"
            refine ⟨_, _, _, _, rfl, rfl, SqL.of f4, atI_nat hfv, ?_⟩
            walk_at "rd"
            exact ⟨_, _, _, _, rfl, rfl, f4, hix, ⟨_, _, _, rfl⟩, fin _ rel⟩
          | some v =>
            rw [hv] at hfv
            walk_at "rd"
            refine ⟨_, _, _, _, rfl, rfl, SqL.of f4, atI_nat hfv, ?_⟩
            walk_at "rd"
            refine ⟨_, _, _, _, rfl, rfl, SqL.of f4, atI_nat hfv, ?_⟩
            walk_at "rd"
            refine ite_d (fun c => ?_) (fun c => ?_)
            · have rel : relax k f' st = f'.set st.1 (some (k + st.2.1)) := by
                unfold relax
                rw [hfg, hv]
                exact if_pos c
              walk_at "rd"
              exact ⟨_, _, _, _, rfl, rfl, f4, hix, ⟨_, _, _, rfl⟩, fin _ rel⟩
            · have rel : relax k f' st = f' := by
                unfold relax
                rw [hfg, hv]
                exact if_neg c
              rw [rel]
              walk_at "rd"
              exact ⟨⟨_, _, _, rfl⟩, S4, f4⟩
        · obtain ⟨⟨v5, v6, v7, rfl⟩, S4, f4⟩ := h
          have hvsl : vs.length = (steps[i]'(by omega)).length := Paired.length hvs
          refine ⟨⟨_, _, _, _, _, rfl⟩, S4, ?_⟩
          show H4 D = some (.lst ((relaxAll steps f (some k, i)).map ov))
          rw [hvsl, List.take_length] at f4
          unfold relaxAll
          rw [hgd]
          exact f4
    · obtain ⟨⟨v2, v4, v5, v6, v7, rfl⟩, S2, f2⟩ := h
      rw [show (best.map ov).length = best.zipIdx.length by simp, List.take_length] at f2
      walk_at "rd"
      exact q H2 D S2 hD f2
theorem dp_ov (K : PySem.W.Frag) (H : Hp) : ∀ l : List OI, ∃ ds, DpAll K H (l.map ov) ds
  | [] => ⟨_, .nil⟩
  | none :: l => by
    obtain ⟨ds, h⟩ := dp_ov K H l
    exact ⟨_, .cons .non h⟩
  | some i :: l => by
    obtain ⟨ds, h⟩ := dp_ov K H l
    exact ⟨_, .cons (.int i) h⟩
def oiD : OI → PyData
  | none => .none
  | some i => .int i
theorem dp_oi (K : PySem.W.Frag) (H : Hp) : ∀ l : List OI, DpAll K H (l.map ov) (l.map oiD)
  | [] => .nil
  | none :: l => .cons .non (dp_oi K H l)
  | some i :: l => .cons (.int i) (dp_oi K H l)
theorem eqv_oi : ∀ a b : List OI, PyData.eqvAll (a.map oiD) (b.map oiD) = decide (a = b)
  | [], [] => by simp [PyData.eqvAll]
  | [], _ :: _ => by simp [PyData.eqvAll]
  | _ :: _, [] => by simp [PyData.eqvAll]
  | x :: a, y :: b => by
    show (PyData.eqv (oiD x) (oiD y) && PyData.eqvAll (a.map oiD) (b.map oiD)) = _
    rw [eqv_oi a b]
    cases x <;> cases y <;> first | (simp [oiD, PyData.eqv]; done) | skip
    rename_i i j
    show ((i == j) && decide (a = b)) = decide (some i :: a = some j :: b)
    by_cases h : i = j
    · subst h; simp
    · simp [h]
theorem lay_oi : ∀ l : List OI, PyData.canLayAll0 (l.map oiD) = true ∧ PyData.depthAll (l.map oiD) = 0
  | [] => ⟨rfl, rfl⟩
  | x :: l => by
    obtain ⟨h1, h2⟩ := lay_oi l
    refine ⟨?_, ?_⟩
    · show (PyData.canLay0 (oiD x) && PyData.canLayAll0 (l.map oiD)) = true
      rw [h1]
      cases x <;> rfl
    · show max (PyData.depth (oiD x)) (PyData.depthAll (l.map oiD)) = 0
      rw [h2]
      cases x <;> rfl
theorem shaped_oi (l : List OI) : SeqAt.shaped (.list (l.map oiD)) = true := by
  obtain ⟨h1, h2⟩ := lay_oi l
  unfold SeqAt.shaped
  rw [show PyData.canLay0 (.list (l.map oiD)) = true from h1, show PyData.depth (.list (l.map oiD)) = PyData.depthAll (l.map oiD) + 1 from rfl, h2]
  rfl
def sp_highest_of : Sp := fun vs H Q _ => ∃ (l : Addr) (svs : List V) (steps : List (List Step)), vs = [.ref l] ∧ H l = some (.lst svs) ∧ Paired (LsAt H) svs steps ∧ steps.length ≤ 1000 ∧ (∀ st ∈ steps, ∀ s ∈ st, s.1 < steps.length) ∧
  (highest steps = none → ∀ H', Same H H' → Q .non H') ∧ ∀ best, highest steps = some best → ∀ H' p, Same H H' → H' p = some (.lst (best.map ov)) → Q (.ref p) H'
theorem sc_highest_of : FnScope ["steps", "best", "count", "known", "fresh", "later"] ["steps"] (defScope s_highest_of) := by walk_at "sc"
theorem ok_highest_of (T : Tx w K mg) : Fn PG w K mg base 2 (ga K "highest_of") sp_highest_of := by
  obtain ⟨fd, F⟩ := T.fn _ m_highest_of
  refine fn_mk F (F.bindsN fun _ _ _ _ _ _ us hl => match us, hl with | [_], _ => rfl) sc_highest_of (fun vs H Q E h => by obtain ⟨l, svs, steps, rfl, hl, hsv, hz, hgo, q0, q1⟩ := h; rfl) ?_
  intro cdv A outer s H vs Q E hr h
  refine ⟨_, PSs.nox (pss_cons (ps_set (i := 1) sc_highest_of.nd rfl (Or.inl rfl) (pe_cl (ok_started T) (hr.mono (by decide)) (T.g "started") (T.kp _ m_started) (fun _ => pas0) (pa_cons (pv 0) pa_nil)))
    (pss_cons (ps_for PassesOwn.never rfl (pi_range1 rfl (T.f "range") (pa_cons (pe_op op_add (pe_callB call_len_seq rfl (T.f "len") (by decide +kernel) (pa_cons (pv 0) pa_nil)) pe_int) pa_nil)) (pg_name (i := 2) sc_highest_of.nd rfl (Or.inl rfl)) (pss_cons (ps_setLc (i := 5) (own := [("known", 3), ("fresh", 4)]) (g := gTup K 2 (gCons (gName 3) (gCons (gName 4) gNil))) rfl sc_highest_of.nd rfl rfl (sw_true rfl rfl rfl (by decide +kernel)) (pi_zip rfl (T.f "zip") (pa_cons (pv 1) (pa_cons (pe_cl (ok_one_on T) (hr.mono (by decide)) (T.g "one_on") (T.kp _ m_one_on) (fun _ => pas0) (pa_cons (pv 0) (pa_cons (pv 1) pa_nil))) pa_nil))) (blkOk_by (N := ["steps", "best", "count", "known", "fresh", "later"]) (sc := defScope s_highest_of) (by decide +kernel)) (fun _ _ _ _ _ => (pg_tup rfl (pgs_cons (pg_name (i := 3) sc_highest_of.nd rfl (Or.inl rfl)) (pgs_cons (pg_name (i := 4) sc_highest_of.nd rfl (Or.inl rfl)) pgs_nil)))) (fun _ _ _ _ _ => pts_nil) (fun _ _ _ _ _ => (pe_cl (ok_greater T) (hr.mono (by decide)) (T.g "greater") (T.kp _ m_greater) (fun _ => pas0) (pa_cons (pv 3) (pa_cons (pv 4) pa_nil)))))
    (pss_cons (ps_if (pt_cmpR (op_eqD (hu_le hr)) (pv 5) (pv 1) (nomark _)) (pss_one (ps_ret (pv 1))) pss_nil)
    (pss_one (ps_set (i := 1) sc_highest_of.nd rfl (Or.inl rfl) (pv 5))))))
    (pss_one (ps_ret pe_non)))), ?_⟩
  obtain ⟨l, svs, steps, rfl, hl, hsv, hz, hgo, q0, q1⟩ := h
  have hsl : svs.length = steps.length := Paired.length hsv
  walk_at "rd"
  refine ⟨l, svs, rfl, hl, by omega, fun H1 p1 S1 n1 hp1 => ?_⟩
  have hl1 := S1 _ _ hl
  walk_at "rd"
  refine ⟨by omega, by omega, ?_⟩
  refine for_it (walk_range) (fun i σ H2 => ∃ best p v2 v3 v4 v5, σ = [some (.ref l), some (.ref p), v2, v3, v4, v5] ∧ Same H H2 ∧ H2 p = some (.lst (best.map ov)) ∧ best.length = steps.length ∧ hi steps (steps.length + 1 - i) best = highest steps)
    ⟨_, p1, _, _, _, _, rfl, S1, hp1, by rw [started_len, hsl], by rw [hsl]; rfl⟩ (fun _ _ _ _ _ => True.intro) (fun i v σ H2 H3 hi0 h hy => ?_) fun σ H2 h => ?_
  · obtain ⟨e23, rfl⟩ := hy
    subst H3
    obtain ⟨best, p, v2, v3, v4, v5, rfl, S2, hp2, hbl, hhi⟩ := h
    have hi1 : i < steps.length + 1 := by
      have : ((svs.length : Int) + 1).toNat = steps.length + 1 := by omega
      omega
    walk_at "rd"
    refine ⟨l, p, svs, steps, best, rfl, S2 _ _ hl, K56.Paired.imp (fun _ _ z => LsAt.mono S2 z) hsv, hp2, hbl, by omega, by rw [hbl]; exact hgo, fun H3 p3 S3 n3 hp3 => ?_⟩
    have hp23 := S3 _ _ hp2
    refine ⟨p, p3, _, _, rfl, SqL.of hp23, SqL.of hp3, fun D hD => lc_it (walk_zip (n := best.length) (by rw [List.length_map, List.length_map, oneOn_len, Nat.min_self])) (fun j H4 => Same H3 H4 ∧ H4 D = some (.lst (((later steps best).take j).map ov))) ⟨same_new hD, upd_same⟩ (fun _ _ _ h => ⟨SqL.of (h.1 _ _ hp23), SqL.of (h.1 _ _ hp3)⟩) (fun j v H4 H5 hj h hy => ?_) fun H4 h => ?_⟩
    · obtain ⟨S4, f4⟩ := h
      obtain ⟨Tt, xx, yy, rfl, hT, rfl, e5, e6⟩ := hy
      have h1 : best[j]? = some best[j] := List.getElem?_eq_getElem hj
      have h2 : (oneOn steps best)[j]? = some ((oneOn steps best)[j]'(by rw [oneOn_len]; exact hj)) := List.getElem?_eq_getElem _
      have e7 : xx = ov best[j] := by
        have e8 : (best.map ov)[j]? = some xx := e5
        rw [List.getElem?_map, h1] at e8
        exact (Option.some.inj e8).symm
      have e9 : yy = ov ((oneOn steps best)[j]'(by rw [oneOn_len]; exact hj)) := by
        have e8 : ((oneOn steps best).map ov)[j]? = some yy := e6
        rw [List.getElem?_map, h2] at e8
        exact (Option.some.inj e8).symm
      have hla := later_at h1 h2
      generalize (best[j] : OI) = ba at e7 hla
      generalize ((oneOn steps best)[j]'(by rw [oneOn_len]; exact hj) : OI) = bb at e9 hla
      subst e7
      subst e9
      have nDT : D ≠ Tt := ne_of_none f4 hT
      generalize e3 : upd H4 Tt _ = H5
      have S5 : Same H3 H5 := S4.trans (e3 ▸ same_new hT)
      have u5 : H5 Tt = _ := e3 ▸ upd_same
      have f5 : H5 D = some (.lst (((later steps best).take j).map ov)) := by rw [← e3, upd_ne nDT]; exact f4
      walk_at "rd"
      refine ⟨_, f5, ?_, fun b u e2 => ?_, ?_⟩
      · rw [List.length_map, List.length_take, sizeLine_eq]
        omega
      · rw [upd_ne (ne_of_none e2 hD)]
        exact S5 _ _ e2
      · rw [upd_same, List.take_add_one, hla, List.map_append]
        rfl
    · obtain ⟨S4, f4⟩ := h
      rw [show best.length = (later steps best).length by rw [later_len], List.take_length] at f4
      have hp24 := S4 _ _ hp23
      walk_at "rd"
      refine ⟨_, _, .lst (SqL.of f4) (dp_oi _ _ _), .lst (SqL.of hp24) (dp_oi _ _ _), shaped_oi _, shaped_oi _, ?_⟩
      rw [show PyData.eqv (.list ((later steps best).map oiD)) (.list (best.map oiD)) = decide (later steps best = best) from eqv_oi _ _]
      have hhi2 : hi steps (steps.length + 1 - i) best = if later steps best = best then some best else hi steps (steps.length + 1 - (i + 1)) (later steps best) := by
        rw [show steps.length + 1 - i = (steps.length + 1 - (i + 1)) + 1 by omega]
        rfl
      walk_at "rd"
      refine ite_d (fun c => ?_) (fun c => ?_)
      · rw [if_pos c, hhi] at hhi2
        walk_at "rd"
        exact q1 _ hhi2 H4 p ((S2.trans S3).trans S4) hp24
      · rw [if_neg c, hhi] at hhi2
        walk_at "rd"
        exact ⟨later steps best, D, _, _, _, _, rfl, (S2.trans S3).trans S4, f4, by rw [later_len, hbl], hhi2.symm⟩
  · obtain ⟨best, p, v2, v3, v4, v5, rfl, S2, hp2, hbl, hhi⟩ := h
    have : ((svs.length : Int) + 1).toNat = steps.length + 1 := by omega
    rw [this, Nat.sub_self] at hhi
    walk_at "rd"
    exact q0 hhi.symm H2 S2
end
end K56
namespace K56
open PySem PySem.Spec PyProof.Rows L2
local macro_rules | `(tactic| walk_at "rd") => `(tactic| repeat (first | (refine ⟨_, rfl, ?_⟩) | (refine ⟨_, _, rfl, rfl, ?_⟩) | (refine ⟨rfl, ?_⟩) | (refine ⟨_, (by assumption : _ = some (HO.tup _)), ?_⟩) | (refine ⟨_, _, _, _, rfl, rfl, SqT.of (by assumption), rfl, ?_⟩) | (refine ⟨_, _, _, _, rfl, rfl, SqL.of (by assumption), rfl, ?_⟩) | (refine ⟨_, _, rfl, .inr (SqT.of (by assumption)), ?_⟩) | (refine ⟨_, _, rfl, .inl (SqL.of (by assumption)), ?_⟩) | (refine ⟨_, _, rfl, SqT.of (by assumption), rfl, ?_⟩) | (refine ⟨_, _, _, _, _, rfl, (by assumption : _ = some (HO.ins _ _ _)), Tx.cls (by assumption) _ (by decide +kernel), Tx.noat (by assumption) _ _ (by decide +kernel), rfl, ?_⟩) | (refine ⟨_, _, _, rfl, (by assumption : _ = some (HO.ins _ _ _)), _, _, rfl, (by assumption : ClAt _ _ _ _), ?_⟩) | (refine ⟨_, _, _, _, rfl, (by assumption : _ = some (HO.ins _ _ _)), Tx.cls (by assumption) _ (by decide +kernel), Tx.noat (by assumption) _ _ (by decide +kernel), Nat.le_of_ble_eq_true rfl, ?_⟩) | (refine ⟨_, _, rfl, SqT.of (by assumption), ?_⟩) | (refine ⟨_, _, rfl, SqL.of (by assumption), ?_⟩) | (refine ⟨_, _, rfl, ?_⟩) | (refine ⟨_, _, _, rfl, (by assumption : _ = some (HO.ins _ _ _)), ?_⟩) | (refine ⟨_, _, _, rfl, (by assumption : _ = some (HO.tup _)), ?_⟩) | (refine ⟨_, _, _, rfl, (by assumption : ClAt _ _ _ _), ?_⟩) | (refine ⟨_, _, _, _, _, rfl, (by assumption : ClAt _ _ _ _), (by assumption : _ = some (HO.tup _)), ?_⟩) | (refine ⟨.inl ⟨rfl, _, SqL.of (by assumption)⟩, ?_⟩) | (refine ⟨⟨_, SqL.of (by assumption)⟩, ?_⟩) | (refine ⟨⟨_, SqT.of (by assumption)⟩, ?_⟩) | (with_reducible refine ite_t ?kc ?kg; (case kc => simp; done)) | (with_reducible refine ite_f ?kc ?kg; (case kc => simp; done))))
local macro_rules | `(tactic| walk_at "sc") => `(tactic| exact ⟨rfl, rfl, rfl, by decide +kernel, rfl, by decide +kernel, by decide +kernel⟩)
section
variable {w : World} {K : PySem.W.Frag} {mg : Str → Option Value} {base : Heap}
def sp_Web_highest (K : PySem.W.Frag) : Sp := fun vs H Q _ => ∃ (N : Type) (_ : DecidableEq N) (x : Addr) (wb : Wb N), vs = [.ref x] ∧ WbAt K H x wb ∧ WbOk wb ∧
  (highest wb.steps = none → ∀ H', Same H H' → Q .non H') ∧ ∀ best, highest wb.steps = some best → ∀ H' p, Same H H' → H' p = some (.lst (best.map ov)) → Q (.ref p) H'
theorem sc_Web_highest : FnScope ["self"] ["self"] (defScope s_Web_highest) := by walk_at "sc"
theorem ok_Web_highest (T : Tx w K mg) : Fn PG w K mg base 3 (me K "Web" "highest") (sp_Web_highest K) := by
  obtain ⟨fd, F⟩ := T.fn _ m_Web_highest
  refine fn_mk F (F.bindsN fun _ _ _ _ _ _ us hl => match us, hl with | [_], _ => rfl) sc_Web_highest (fun vs H Q E h => by obtain ⟨N, dN, x, wb, rfl, ⟨dx, ln, pd, ls, lo, svs, ovs, hx, hls, hsv, hlo, hov⟩, ok, q0, q1⟩ := h; rfl) ?_
  intro cdv A outer s H vs Q E hr h
  refine ⟨_, PSs.nox (pss_one (ps_ret (pe_cl (ok_highest_of T) (hr.mono (by decide)) (T.g "highest_of") (T.kp _ m_highest_of) (fun _ => pas0) (pa_cons (pe_fld (pv 0) rfl) pa_nil)))), ?_⟩
  obtain ⟨N, dN, x, wb, rfl, ⟨dx, ln, pd, ls, lo, svs, ovs, hx, hls, hsv, hlo, hov⟩, ok, q0, q1⟩ := h
  have hb : wb.steps.length ≤ 1000 := by
    obtain ⟨ms, S, G, h1, h2, h3, _⟩ := ok.ok
    omega
  walk_at "rd"
  exact ⟨ls, svs, wb.steps, rfl, hls, hsv, hb, ok.gains, q0, q1⟩
/-- the answer to lead and lowest -/
def ldV : Option Int → V
  | none => .str "endless"
  | some i => .int i
def sp_lead_in (K : PySem.W.Frag) : Sp := fun vs H Q _ => ∃ (N : Type) (_ : DecidableEq N) (x : Addr) (wb : Wb N), vs = [.ref x] ∧ WbAt K H x wb ∧ WbOk wb ∧ ∀ H', Same H H' → Q (ldV (leadW wb)) H'
theorem sc_lead_in : FnScope ["web", "best"] ["web"] (defScope s_lead_in) := by walk_at "sc"
theorem ok_lead_in (T : Tx w K mg) : Fn PG w K mg base 4 (ga K "lead_in") (sp_lead_in K) := by
  obtain ⟨fd, F⟩ := T.fn _ m_lead_in
  refine fn_mk F (F.bindsN fun _ _ _ _ _ _ us hl => match us, hl with | [_], _ => rfl) sc_lead_in (fun vs H Q E h => by obtain ⟨N, dN, x, wb, rfl, hw, ok, q⟩ := h; rfl) ?_
  intro cdv A outer s H vs Q E hr h
  refine ⟨_, PSs.nox (pss_cons (ps_set (i := 1) sc_lead_in.nd rfl (Or.inl rfl) (pe_ml0 (pv 0) (T.cls "Web" (by decide +kernel)) (T.meth "Web" "highest" (by decide +kernel)) (ok_Web_highest T) (hr.mono (by decide)) (fun _ => pas0)))
    (pss_one (ps_ret (pe_ifExp (pt_cmpR op_isN (pv 1) pe_non (nomark _)) pe_str (pe_callB (cr_max rfl) rfl (T.f "max") (by decide +kernel) (pa_cons (pv 1) pa_nil)))))), ?_⟩
  obtain ⟨N, dN, x, wb, rfl, hw, ok, q⟩ := h
  obtain ⟨dx, ln, pd, ls, lo, svs, ovs, hx, _⟩ := id hw.st
  walk_at "rd"
  refine ⟨N, dN, x, wb, rfl, hw, ok, fun e H' S => ?_, fun best e H' p S hp => ?_⟩
  · have q1 := q H' S
    rw [show leadW wb = none by unfold leadW; rw [e]; rfl] at q1
    walk_at "rd"
    exact q1
  · obtain ⟨ms, Ss, G, h1, h2, _⟩ := ok.ok
    obtain ⟨hi1, hi2⟩ := high_ints h1 h2 e
    have hp2 : H' p = some (.lst ((intsOf best).map V.int)) := by
      rw [hp]
      conv => lhs; rw [hi1, List.map_map]
      rfl
    walk_at "rd"
    refine ⟨hi2, fun m hm hle => ?_⟩
    have q1 := q H' S
    rw [show leadW wb = some m by unfold leadW; rw [e]; exact congrArg some (maxL_uniq hm hle).symm] at q1
    exact q1
def sp_Web_course_to (K : PySem.W.Frag) : Sp := fun vs H Q _ => ∃ (N : Type) (_ : DecidableEq N) (x : Addr) (wb : Wb N) (p : Nat), vs = [.ref x, .int p] ∧ WbAt K H x wb ∧ WbOk wb ∧ p < wb.nodes.length ∧
  ∀ H' t, Same H H' → H' t = some (.tup ((course wb.orig p).map V.int)) → Q (.ref t) H'
theorem sc_Web_course_to : FnScope ["self", "place", "found", "move"] ["self", "place"] (defScope s_Web_course_to) := by walk_at "sc"
theorem ok_Web_course_to (T : Tx w K mg) : Fn PG w K mg base 1 (me K "Web" "course_to") (sp_Web_course_to K) := by
  obtain ⟨fd, F⟩ := T.fn _ m_Web_course_to
  refine fn_mk F (F.bindsN fun _ _ _ _ _ _ us hl => match us, hl with | [_, _], _ => rfl) sc_Web_course_to (fun vs H Q E h => by obtain ⟨N, dN, x, wb, p, rfl, ⟨dx, ln, pd, ls, lo, svs, ovs, hx, hls, hsv, hlo, hov⟩, ok, hp, q⟩ := h; rfl) ?_
  intro cdv A outer s H vs Q E hr h
  refine ⟨_, PSs.nox (pss_cons (ps_set (i := 2) sc_Web_course_to.nd rfl (Or.inl rfl) (pe_lst pa_nil))
    (pss_cons (ps_while PassesOwn.never (pt_cmpR op_notN (pe_ix ix_list (pe_fld (pv 0) rfl) (pv 1) (fun _ _ => rfl)) pe_non (nomark _)) (pss_cons (ps_asg (pe_ix ix_list (pe_fld (pv 0) rfl) (pv 1) (fun _ _ => rfl)) (pg_tup rfl (pgs_cons (pg_name (i := 1) sc_Web_course_to.nd rfl (Or.inl rfl)) (pgs_cons (pg_name (i := 3) sc_Web_course_to.nd rfl (Or.inl rfl)) pgs_nil))))
    (pss_one (ps_expr (pe_bm PySem.F.plainAttrs_list PySem.F.slot_list_append PySem.F.type_list_append mt_append (pv 2) (pa_cons (pv 3) pa_nil))))))
    (pss_one (ps_ret (pe_callTy call_tuple_of rfl (T.f "tuple") (by decide +kernel) (pa_cons (pe_revL (pv 2)) pa_nil)))))), ?_⟩
  obtain ⟨N, dN, x, wb, p, rfl, ⟨dx, ln, pd, ls, lo, svs, ovs, hx, hls, hsv, hlo, hov⟩, ok, hp, q⟩ := h
  obtain ⟨ms, Ss, G, h1, h2, h3, h4, h5, _⟩ := ok.ok
  have hol := h1.ol
  have hovl : ovs.length = wb.orig.length := Paired.length hov
  have hdec : ∀ (j h : Nat) (m : Int), wb.orig[j]? = some (some (h, m)) → h < j := fun j h m e => by
    have hj : j < wb.orig.length := (List.getElem?_eq_some_iff.mp e).1
    by_cases j0 : j = 0
    · subst j0
      rw [h1.o0] at e
      cases e
    · obtain ⟨h', m', e', hlt, _⟩ := h1.org j (by omega) (by omega)
      rw [e] at e'
      cases e'
      exact hlt
  refine ⟨Nat.zero_le _, fun D hD => ?_⟩
  have S0 := same_new (o := HO.lst []) hD
  have f0 : upd H D (.lst []) D = some (.lst []) := upd_same
  generalize upd H D (.lst []) = H0 at S0 f0
  refine while_m (fun m σ H1 => ∃ (p' : Nat) (fl : List Int) (v3 : Option V), σ = [some (.ref x), some (.int (p' : Nat)), some (.ref D), v3] ∧ m = p' ∧ Same H H1 ∧ H1 D = some (.lst (fl.map V.int)) ∧ p' < wb.nodes.length ∧ fl ++ back wb.orig (p' + 1) p' = back wb.orig (p + 1) p ∧ fl.length ≤ p + 1)
    ⟨_, p, [], _, rfl, rfl, S0, f0, hp, rfl, Nat.zero_le _⟩ (fun m σ H1 h => ?_) (fun σ H Q Q' h z => ?_)
  · obtain ⟨p', fl, v3, rfl, rfl, S1, f1, hp', hbk, hfl⟩ := h
    have hoi : wb.orig[m]? = some (wb.orig[m]'(by omega)) := List.getElem?_eq_getElem _
    obtain ⟨vo, hvo, hog⟩ := K56.Paired.get hov hoi
    have hx1 := S1 _ _ hx
    have hlo1 := S1 _ _ hlo
    walk_at "rd"
    refine ⟨_, _, _, _, rfl, rfl, SqL.of hlo1, atI_nat hvo, ?_⟩
    cases ho : (wb.orig[m]'(by omega) : Option (Nat × Int)) with
    | none =>
      rw [ho] at hog hoi
      obtain rfl : vo = V.non := hog
      walk_at "rd"
      intro p3 h3
      have S3 : Same H1 (upd H1 p3 (.lst (fl.map V.int).reverse)) := same_new h3
      have u3 : upd H1 p3 (.lst (fl.map V.int).reverse) p3 = some (.lst (fl.map V.int).reverse) := upd_same
      generalize upd H1 p3 (.lst (fl.map V.int).reverse) = H3 at S3 u3
      walk_at "rd"
      refine ⟨_, _, rfl, .inl ⟨SqL.of u3, fun l hl => ?_⟩⟩
      refine q _ l ((S1.trans S3).trans (same_new hl)) ?_
      rw [upd_same]
      rw [back_stop hoi, List.append_nil] at hbk
      unfold course
      rw [← hbk, List.map_reverse]
    | some hm =>
      obtain ⟨h', m'⟩ := hm
      rw [ho] at hog hoi
      obtain ⟨t, rfl, ht⟩ := hog
      have ht1 := S1 _ _ ht
      have hlt := hdec _ _ _ hoi
      walk_at "rd"
      refine ⟨_, _, _, _, rfl, rfl, SqL.of hlo1, atI_nat hvo, ?_⟩
      walk_at "rd"
      refine ⟨_, _, _, rfl, rfl, f1, by rw [List.length_map, sizeLine_eq]; omega, ?_⟩
      rw [back_step hdec hoi] at hbk
      refine ⟨h', hlt, h', fl ++ [m'], _, rfl, rfl, fun b u e2 => ?_, ?_, by omega, by rw [List.append_assoc]; exact hbk, ?_⟩
      · rw [upd_ne (ne_of_none e2 hD)]
        exact S1 _ _ e2
      · rw [upd_same, List.map_append]
        rfl
      · have e1 := congrArg List.length hbk
        have e2 := back_len wb.orig (p + 1) p
        rw [List.length_append, List.length_cons] at e1
        rw [List.length_append, List.length_singleton]
        omega
  · exact mono_test (mono_opN (mono_opL (mono_fld mono_var) mono_var) mono_c) _ _ _ _ h z
def ptgV : Option (List Int) → Hp → V → Prop
  | none, _, v => v = .non
  | some l, H, v => ∃ t, v = .ref t ∧ H t = some (.tup (l.map V.int))
def sp_web_of (K : PySem.W.Frag) : Sp := fun vs H Q _ => ∃ (a b bd : Addr) (c d : Pt) (lo hi : Int), vs = [.ref a, .ref b, .ref bd] ∧ ClAt K H a c ∧ ClAt K H b d ∧ Ok c ∧ Ok d ∧ BdAt H bd lo hi ∧ (-3 ≤ lo ∧ lo ≤ hi ∧ hi ≤ 3 ∧ hi - lo ≤ 2) ∧
  ∀ H' x, Same H H' → WbAt K H' x (raceW c d (moves lo hi)) → Q (.ref x) H'
theorem rul_race {c d : Pt} (T : Tx w K mg) (oc : Ok c) (od : Ok d) : Rul PG w K mg base PrN (raceAft c d) (rlRace K c d) (ga K "Race") (me K "Race" "after") (sp_Race_after K) where
  cls := T.cls _ (by decide +kernel)
  meth := T.meth _ _ (by decide +kernel)
  fn := ok_Race_after T
  ins := fun ⟨dx, a, b, h, _⟩ => ⟨dx, _, h, rfl⟩
  run := fun {H r v n m Q E} h1 h2 h3 => ⟨c, d, oc, od, r, v, n, m, rfl, h1, h2, h3⟩
  mono := fun e ⟨dx, a, b, h, ha, hb⟩ => ⟨dx, a, b, e _ _ h, ha.mono e, hb.mono e⟩
theorem rul_walk {c : Pt} {sg : Int} (T : Tx w K mg) (oc : Ok c) (hs : -(2 ^ 60) < sg ∧ sg < 2 ^ 60) : Rul PG w K mg base StN (walkAft c sg) (rlWalk K c sg) (ga K "Walk") (me K "Walk" "after") (sp_Walk_after K) where
  cls := T.cls _ (by decide +kernel)
  meth := T.meth _ _ (by decide +kernel)
  fn := ok_Walk_after T
  ins := fun ⟨dx, a, h, _⟩ => ⟨dx, _, h, rfl⟩
  run := fun {H r v n m Q E} h1 h2 h3 => ⟨c, sg, oc, hs, r, v, n, m, rfl, h1, h2, h3⟩
  mono := fun e ⟨dx, a, h, ha⟩ => ⟨dx, a, e _ _ h, ha.mono e⟩
end
end K56
namespace K56
open PySem PySem.Spec PyProof.Rows L2
local macro_rules | `(tactic| walk_at "rd") => `(tactic| repeat (first | (refine ⟨_, rfl, ?_⟩) | (refine ⟨_, _, rfl, rfl, ?_⟩) | (refine ⟨rfl, ?_⟩) | (refine ⟨_, (by assumption : _ = some (HO.tup _)), ?_⟩) | (refine ⟨_, _, _, _, rfl, rfl, SqT.of (by assumption), rfl, ?_⟩) | (refine ⟨_, _, _, _, rfl, rfl, SqL.of (by assumption), rfl, ?_⟩) | (refine ⟨_, _, rfl, .inr (SqT.of (by assumption)), ?_⟩) | (refine ⟨_, _, rfl, .inl (SqL.of (by assumption)), ?_⟩) | (refine ⟨_, _, rfl, SqT.of (by assumption), rfl, ?_⟩) | (refine ⟨_, _, _, _, _, rfl, (by assumption : _ = some (HO.ins _ _ _)), Tx.cls (by assumption) _ (by decide +kernel), Tx.noat (by assumption) _ _ (by decide +kernel), rfl, ?_⟩) | (refine ⟨_, _, _, rfl, (by assumption : _ = some (HO.ins _ _ _)), _, _, rfl, (by assumption : ClAt _ _ _ _), ?_⟩) | (refine ⟨_, _, _, _, rfl, (by assumption : _ = some (HO.ins _ _ _)), Tx.cls (by assumption) _ (by decide +kernel), Tx.noat (by assumption) _ _ (by decide +kernel), Nat.le_of_ble_eq_true rfl, ?_⟩) | (refine ⟨_, _, rfl, SqT.of (by assumption), ?_⟩) | (refine ⟨_, _, rfl, SqL.of (by assumption), ?_⟩) | (refine ⟨_, _, rfl, ?_⟩) | (refine ⟨_, _, _, rfl, (by assumption : _ = some (HO.ins _ _ _)), ?_⟩) | (refine ⟨_, _, _, rfl, (by assumption : _ = some (HO.tup _)), ?_⟩) | (refine ⟨_, _, _, rfl, (by assumption : ClAt _ _ _ _), ?_⟩) | (refine ⟨_, _, _, _, _, rfl, (by assumption : ClAt _ _ _ _), (by assumption : _ = some (HO.tup _)), ?_⟩) | (refine ⟨.inl ⟨rfl, _, SqL.of (by assumption)⟩, ?_⟩) | (refine ⟨⟨_, SqL.of (by assumption)⟩, ?_⟩) | (refine ⟨⟨_, SqT.of (by assumption)⟩, ?_⟩) | (with_reducible refine ite_t ?kc ?kg; (case kc => simp; done)) | (with_reducible refine ite_f ?kc ?kg; (case kc => simp; done))))
local macro_rules | `(tactic| walk_at "sc") => `(tactic| exact ⟨rfl, rfl, rfl, by decide +kernel, rfl, by decide +kernel, by decide +kernel⟩)
section
variable {w : World} {K : PySem.W.Frag} {mg : Str → Option Value} {base : Heap}
theorem sc_web_of : FnScope ["one", "other", "band"] ["one", "other", "band"] (defScope s_web_of) := by walk_at "sc"
theorem ok_web_of (T : Tx w K mg) : Fn PG w K mg base 10 (ga K "web_of") (sp_web_of K) := by
  obtain ⟨fd, F⟩ := T.fn _ m_web_of
  refine fn_mk F (F.bindsN fun _ _ _ _ _ _ us hl => match us, hl with | [_, _, _], _ => rfl) sc_web_of (fun vs H Q E h => by obtain ⟨a, b, bd, c, d, lo, hi, rfl, ha, hb, oc, od, hbd, hz, q⟩ := h; rfl) ?_
  intro cdv A outer s H vs Q E hr h
  obtain ⟨a, b, bd, c, d, lo, hi, rfl, ha, hb, oc, od, hbd, hz, q⟩ := h
  refine ⟨_, PSs.nox (pss_one (ps_ret (pe_mk (T.mkr "Web" (by decide +kernel)) (ok_Web_init T nk_pr (rul_race T oc od)) (hr.mono (by decide)) (T.g "Web") (pa_cons (pe_tup (pa_cons (pe_pr (pv 0) (T.cls "Clause" (by decide +kernel)) (T.pr _ mg_Clause_begun) (ok_Clause_begun T) (hr.mono (by decide))) (pa_cons (pe_pr (pv 1) (T.cls "Clause" (by decide +kernel)) (T.pr _ mg_Clause_begun) (ok_Clause_begun T) (hr.mono (by decide))) pa_nil))) (pa_cons (pe_cl (ok_moves_of T) (hr.mono (by decide)) (T.g "moves_of") (T.kp _ m_moves_of) (fun _ => pas0) (pa_cons (pv 2) pa_nil)) (pa_cons (pe_mk (T.mkr "Race" (by decide +kernel)) (ok_Race_init T) (hr.mono (by decide)) (T.g "Race") (pa_cons (pv 0) (pa_cons (pv 1) pa_nil))) pa_nil)))))), ?_⟩
  obtain ⟨dx, t, hc, ht⟩ := id ha
  obtain ⟨dx2, t2, hc2, ht2⟩ := id hb
  walk_at "rd"
  intro s1 h1
  have S1 : Same H (upd H s1 (.tup (sdV (begun c)))) := same_new h1
  have u1 : upd H s1 (.tup (sdV (begun c))) s1 = some (.tup (sdV (begun c))) := upd_same
  generalize upd H s1 (.tup (sdV (begun c))) = H1 at S1 u1
  have hc21 := S1 _ _ hc2
  have hb1 := hb.mono S1
  walk_at "rd"
  intro s2 h2
  have S2 : Same H1 (upd H1 s2 (.tup (sdV (begun d)))) := same_new h2
  have u2 : upd H1 s2 (.tup (sdV (begun d))) s2 = some (.tup (sdV (begun d))) := upd_same
  generalize upd H1 s2 (.tup (sdV (begun d))) = H2 at S2 u2
  walk_at "rd"
  refine ⟨by show 2 ≤ sizeLine; decide, fun p hp => ?_⟩
  generalize e3 : upd H2 p _ = H3
  have S3 : Same H2 H3 := e3 ▸ same_new hp
  have u3 : H3 p = some (.tup [.ref s1, .ref s2]) := e3 ▸ upd_same
  have hbd3 := S3 _ _ (S2 _ _ (S1 _ _ hbd))
  have N3 : PrN H3 (.ref p) (begun c, begun d) := ⟨p, s1, s2, rfl, u3, S3 _ _ (S2 _ _ u1), S3 _ _ u2⟩
  have S03 : Same H H3 := (S1.trans S2).trans S3
  walk_at "rd"
  refine ⟨⟨hz.1, hz.2.1, hz.2.2.1⟩, fun mv hmv => ?_⟩
  generalize e4 : upd H3 mv _ = H4
  have S4 : Same H3 H4 := e4 ▸ same_new hmv
  have u4 : H4 mv = some (.lst ((moves lo hi).map V.int)) := e4 ▸ upd_same
  walk_at "rd"
  intro r dr hr0 hdr0 hdr
  refine ⟨r, dr, a, b, rfl, upd_same, rfl, ?_⟩
  rw [upd_upd]
  generalize e5 : upd (upd H4 dr (.own r)) r _ = H5
  have S5 : Same H4 H5 := e5 ▸ made_same hr0 hdr0 hdr
  have u5 : H5 r = some (.ins (ga K "Race") dr [("one", .ref a), ("other", .ref b)]) := e5 ▸ upd_same
  have S05 : Same H H5 := (S03.trans S4).trans S5
  walk_at "rd"
  intro x dx' hx0 hdx0 hdx
  have e6 : dl [x] (upd (upd H5 dx' (.own x)) x (.ins (ga K "Web") dx' [])) = upd H5 dx' (.own x) := dl1_new (made_none hx0 hdx)
  have S6 : Same H5 (upd H5 dx' (.own x)) := same_new hdx0
  refine ⟨x, dx', mv, r, .ref p, (begun c, begun d), moves lo hi, raceS c d (moves lo hi), 84, rfl, upd_same, race_good oc od (moves_band hz.1 hz.2.2.1 hz.2.2.2), race_begun oc od _, ?_, ?_, (moves_band hz.1 hz.2.2.1 hz.2.2.2).len, ?_, fun H' S7 hw => ⟨rfl, ?_⟩⟩
  · rw [e6]
    exact N3.mono ((S4.trans S5).trans S6)
  · rw [e6]
    exact S6 _ _ (S5 _ _ u4)
  · rw [e6]
    exact ⟨dr, a, b, S6 _ _ u5, (ha.mono S05).mono S6, (hb.mono S05).mono S6⟩
  · rw [e6] at S7
    exact q H' x ((S05.trans S6).trans S7) hw
def sp_web_alone (K : PySem.W.Frag) : Sp := fun vs H Q _ => ∃ (a bd : Addr) (c : Pt) (lo hi : Int), vs = [.ref a, .ref bd, .int (-1)] ∧ ClAt K H a c ∧ Ok c ∧ BdAt H bd lo hi ∧ (-3 ≤ lo ∧ lo ≤ hi ∧ hi ≤ 3 ∧ hi - lo ≤ 2) ∧
  ∀ H' x, Same H H' → WbAt K H' x (walkW c (moves lo hi)) → Q (.ref x) H'
theorem hsg : -(2 ^ 60 : Int) < -1 ∧ (-1 : Int) < 2 ^ 60 := by decide
theorem sc_web_alone : FnScope ["clause", "band", "sign"] ["clause", "band", "sign"] (defScope s_web_alone) := by walk_at "sc"
theorem ok_web_alone (T : Tx w K mg) : Fn PG w K mg base 10 (ga K "web_alone") (sp_web_alone K) := by
  obtain ⟨fd, F⟩ := T.fn _ m_web_alone
  refine fn_mk F (F.bindsN fun _ _ _ _ _ _ us hl => match us, hl with | [_, _, _], _ => rfl) sc_web_alone (fun vs H Q E h => by obtain ⟨a, bd, c, lo, hi, rfl, ha, oc, hbd, hz, q⟩ := h; rfl) ?_
  intro cdv A outer s H vs Q E hr h
  obtain ⟨a, bd, c, lo, hi, rfl, ha, oc, hbd, hz, q⟩ := h
  refine ⟨_, PSs.nox (pss_one (ps_ret (pe_mk (T.mkr "Web" (by decide +kernel)) (ok_Web_init T nk_st (rul_walk T oc hsg)) (hr.mono (by decide)) (T.g "Web") (pa_cons (pe_pr (pv 0) (T.cls "Clause" (by decide +kernel)) (T.pr _ mg_Clause_begun) (ok_Clause_begun T) (hr.mono (by decide))) (pa_cons (pe_cl (ok_moves_of T) (hr.mono (by decide)) (T.g "moves_of") (T.kp _ m_moves_of) (fun _ => pas0) (pa_cons (pv 1) pa_nil)) (pa_cons (pe_mk (T.mkr "Walk" (by decide +kernel)) (ok_Walk_init T) (hr.mono (by decide)) (T.g "Walk") (pa_cons (pv 0) (pa_cons (pv 2) pa_nil))) pa_nil)))))), ?_⟩
  obtain ⟨dx, t, hc, ht⟩ := id ha
  walk_at "rd"
  intro s1 h1
  have S1 : Same H (upd H s1 (.tup (sdV (begun c)))) := same_new h1
  have u1 : upd H s1 (.tup (sdV (begun c))) s1 = some (.tup (sdV (begun c))) := upd_same
  generalize upd H s1 (.tup (sdV (begun c))) = H3 at S1 u1
  have hbd3 := S1 _ _ hbd
  have N3 : StN H3 (.ref s1) (begun c) := ⟨s1, rfl, u1⟩
  walk_at "rd"
  refine ⟨⟨hz.1, hz.2.1, hz.2.2.1⟩, fun mv hmv => ?_⟩
  generalize e4 : upd H3 mv _ = H4
  have S4 : Same H3 H4 := e4 ▸ same_new hmv
  have u4 : H4 mv = some (.lst ((moves lo hi).map V.int)) := e4 ▸ upd_same
  walk_at "rd"
  intro r dr hr0 hdr0 hdr
  refine ⟨r, dr, a, -1, rfl, upd_same, rfl, ?_⟩
  rw [upd_upd]
  generalize e5 : upd (upd H4 dr (.own r)) r _ = H5
  have S5 : Same H4 H5 := e5 ▸ made_same hr0 hdr0 hdr
  have u5 : H5 r = some (.ins (ga K "Walk") dr [("rented", .ref a), ("sign", .int (-1))]) := e5 ▸ upd_same
  have S05 : Same H H5 := (S1.trans S4).trans S5
  walk_at "rd"
  intro x dx' hx0 hdx0 hdx
  have e6 : dl [x] (upd (upd H5 dx' (.own x)) x (.ins (ga K "Web") dx' [])) = upd H5 dx' (.own x) := dl1_new (made_none hx0 hdx)
  have S6 : Same H5 (upd H5 dx' (.own x)) := same_new hdx0
  refine ⟨x, dx', mv, r, .ref s1, begun c, moves lo hi, sds c (moves lo hi), 84, rfl, upd_same, walk_good oc (moves_band hz.1 hz.2.2.1 hz.2.2.2), begun_in oc _, ?_, ?_, (moves_band hz.1 hz.2.2.1 hz.2.2.2).len, ?_, fun H' S7 hw => ⟨rfl, ?_⟩⟩
  · rw [e6]
    exact N3.mono ((S4.trans S5).trans S6)
  · rw [e6]
    exact S6 _ _ (S5 _ _ u4)
  · rw [e6]
    exact ⟨dr, a, S6 _ _ u5, (ha.mono S05).mono S6⟩
  · rw [e6] at S7
    exact q H' x ((S05.trans S6).trans S7) hw
end
end K56
namespace K56
open PySem PySem.Spec PyProof.Rows L2
local macro_rules | `(tactic| walk_at "rd") => `(tactic| repeat (first | (refine ⟨_, rfl, ?_⟩) | (refine ⟨_, _, rfl, rfl, ?_⟩) | (refine ⟨rfl, ?_⟩) | (refine ⟨_, (by assumption : _ = some (HO.tup _)), ?_⟩) | (refine ⟨_, _, _, _, rfl, rfl, SqT.of (by assumption), rfl, ?_⟩) | (refine ⟨_, _, _, _, rfl, rfl, SqL.of (by assumption), rfl, ?_⟩) | (refine ⟨_, _, rfl, .inr (SqT.of (by assumption)), ?_⟩) | (refine ⟨_, _, rfl, .inl (SqL.of (by assumption)), ?_⟩) | (refine ⟨_, _, rfl, SqT.of (by assumption), rfl, ?_⟩) | (refine ⟨_, _, _, _, _, rfl, (by assumption : _ = some (HO.ins _ _ _)), Tx.cls (by assumption) _ (by decide +kernel), Tx.noat (by assumption) _ _ (by decide +kernel), rfl, ?_⟩) | (refine ⟨_, _, _, rfl, (by assumption : _ = some (HO.ins _ _ _)), _, _, rfl, (by assumption : ClAt _ _ _ _), ?_⟩) | (refine ⟨_, _, _, _, rfl, (by assumption : _ = some (HO.ins _ _ _)), Tx.cls (by assumption) _ (by decide +kernel), Tx.noat (by assumption) _ _ (by decide +kernel), Nat.le_of_ble_eq_true rfl, ?_⟩) | (refine ⟨_, _, rfl, SqT.of (by assumption), ?_⟩) | (refine ⟨_, _, rfl, SqL.of (by assumption), ?_⟩) | (refine ⟨_, _, rfl, ?_⟩) | (refine ⟨_, _, _, rfl, (by assumption : _ = some (HO.ins _ _ _)), ?_⟩) | (refine ⟨_, _, _, rfl, (by assumption : _ = some (HO.tup _)), ?_⟩) | (refine ⟨_, _, _, rfl, (by assumption : ClAt _ _ _ _), ?_⟩) | (refine ⟨_, _, _, _, _, rfl, (by assumption : ClAt _ _ _ _), (by assumption : _ = some (HO.tup _)), ?_⟩) | (refine ⟨.inl ⟨rfl, _, SqL.of (by assumption)⟩, ?_⟩) | (refine ⟨⟨_, SqL.of (by assumption)⟩, ?_⟩) | (refine ⟨⟨_, SqT.of (by assumption)⟩, ?_⟩) | (with_reducible refine ite_t ?kc ?kg; (case kc => simp; done)) | (with_reducible refine ite_f ?kc ?kg; (case kc => simp; done))))
local macro_rules | `(tactic| walk_at "sc") => `(tactic| exact ⟨rfl, rfl, rfl, by decide +kernel, rfl, by decide +kernel, by decide +kernel⟩)
section
variable {w : World} {K : PySem.W.Frag} {mg : Str → Option Value} {base : Heap}
theorem WbAt.mono {N : Type} {H H' : Hp} (e : Same H H') {x : Addr} {wb : Wb N} (h : WbAt K H x wb) : WbAt K H' x wb := by
  obtain ⟨dx, ln, pd, ls, lo, svs, ovs, h1, h2, h3, h4, h5⟩ := h.st
  exact ⟨dx, ln, pd, ls, lo, svs, ovs, e _ _ h1, e _ _ h2, K56.Paired.imp (fun _ _ z => LsAt.mono e z) h3, e _ _ h4, K56.Paired.imp (fun _ _ z => OgAt.mono e z) h5⟩
theorem race_ok {c d : Pt} (oc : Ok c) (od : Ok d) {lo hi : Int} (hz : -3 ≤ lo ∧ lo ≤ hi ∧ hi ≤ 3 ∧ hi - lo ≤ 2) : WbOk (raceW c d (moves lo hi)) :=
  wbok_of (race_good oc od (moves_band hz.1 hz.2.2.1 hz.2.2.2)) (race_begun oc od _) (moves_band hz.1 hz.2.2.1 hz.2.2.2)
theorem walk_ok {c : Pt} (oc : Ok c) {lo hi : Int} (hz : -3 ≤ lo ∧ lo ≤ hi ∧ hi ≤ 3 ∧ hi - lo ≤ 2) : WbOk (walkW c (moves lo hi)) :=
  wbok_of (walk_good oc (moves_band hz.1 hz.2.2.1 hz.2.2.2)) (begun_in oc _) (moves_band hz.1 hz.2.2.1 hz.2.2.2)
def sp_checked (K : PySem.W.Frag) : Sp := fun vs H Q E => sp_web_of K vs H Q E
theorem sc_checked : FnScope ["one", "other", "band"] ["one", "other", "band"] (defScope s_checked) := by walk_at "sc"
theorem ok_checked (T : Tx w K mg) : Fn PG w K mg base 11 (ga K "checked") (sp_checked K) := by
  obtain ⟨fd, F⟩ := T.fn _ m_checked
  refine fn_mk F (F.bindsN fun _ _ _ _ _ _ us hl => match us, hl with | [_, _, _], _ => rfl) sc_checked (fun vs H Q E h => by obtain ⟨a, b, bd, c, d, lo, hi, rfl, ha, hb, oc, od, hbd, hz, q⟩ := h; rfl) ?_
  intro cdv A outer s H vs Q E hr h
  refine ⟨_, PSs.nox (pss_cons (ps_expr (pe_cl (ok_check_clause T) (hr.mono (by decide)) (T.g "check_clause") (T.kp _ m_check_clause) (fun _ => pas0) (pa_cons (pv 0) pa_nil)))
    (pss_cons (ps_expr (pe_cl (ok_check_clause T) (hr.mono (by decide)) (T.g "check_clause") (T.kp _ m_check_clause) (fun _ => pas0) (pa_cons (pv 1) pa_nil)))
    (pss_cons (ps_expr (pe_cl (ok_check_band T) (hr.mono (by decide)) (T.g "check_band") (T.kp _ m_check_band) (fun _ => pas0) (pa_cons (pv 2) pa_nil)))
    (pss_one (ps_ret (pe_cl (ok_web_of T) (hr.mono (by decide)) (T.g "web_of") (T.kp _ m_web_of) (fun _ => pas0) (pa_cons (pv 0) (pa_cons (pv 1) (pa_cons (pv 2) pa_nil))))))))), ?_⟩
  obtain ⟨a, b, bd, c, d, lo, hi, rfl, ha, hb, oc, od, hbd, hz, q⟩ := h
  walk_at "rd"
  refine ⟨_, _, rfl, ha, ?_⟩
  walk_at "rd"
  refine ⟨_, _, rfl, hb, ?_⟩
  walk_at "rd"
  refine ⟨⟨hz.1, hz.2.1, hz.2.2.1⟩, ?_⟩
  walk_at "rd"
  exact ⟨a, b, bd, c, d, lo, hi, rfl, ha, hb, oc, od, hbd, hz, q⟩
def sp_lead (K : PySem.W.Frag) : Sp := fun vs H Q _ => ∃ (a b bd : Addr) (c d : Pt) (lo hi : Int), vs = [.ref a, .ref b, .ref bd] ∧ ClAt K H a c ∧ ClAt K H b d ∧ Ok c ∧ Ok d ∧ BdAt H bd lo hi ∧ (-3 ≤ lo ∧ lo ≤ hi ∧ hi ≤ 3 ∧ hi - lo ≤ 2) ∧
  ∀ H', Same H H' → Q (ldV (lead c d (moves lo hi))) H'
theorem sc_lead : FnScope ["one", "other", "band"] ["one", "other", "band"] (defScope s_lead) := by walk_at "sc"
theorem ok_lead (T : Tx w K mg) : Fn PG w K mg base 12 (ga K "lead") (sp_lead K) := by
  obtain ⟨fd, F⟩ := T.fn _ m_lead
  refine fn_mk F (F.bindsN fun _ _ _ _ _ _ us hl => match us, hl with | [_, _, _], _ => rfl) sc_lead (fun vs H Q E h => by obtain ⟨a, b, bd, c, d, lo, hi, rfl, ha, hb, oc, od, hbd, hz, q⟩ := h; rfl) ?_
  intro cdv A outer s H vs Q E hr h
  refine ⟨_, PSs.nox (pss_one (ps_ret (pe_cl (ok_lead_in T) (hr.mono (by decide)) (T.g "lead_in") (T.kp _ m_lead_in) (fun _ => pas0) (pa_cons (pe_cl (ok_checked T) (hr.mono (by decide)) (T.g "checked") (T.kp _ m_checked) (fun _ => pas0) (pa_cons (pv 0) (pa_cons (pv 1) (pa_cons (pv 2) pa_nil)))) pa_nil)))), ?_⟩
  obtain ⟨a, b, bd, c, d, lo, hi, rfl, ha, hb, oc, od, hbd, hz, q⟩ := h
  walk_at "rd"
  refine ⟨a, b, bd, c, d, lo, hi, rfl, ha, hb, oc, od, hbd, hz, fun H1 x S1 hw => ?_⟩
  walk_at "rd"
  exact ⟨Sd × Sd, inferInstance, x, _, rfl, hw, race_ok oc od hz, fun H2 S2 => q H2 (S1.trans S2)⟩
def sp_lowest (K : PySem.W.Frag) : Sp := fun vs H Q _ => ∃ (a bd : Addr) (c : Pt) (lo hi : Int), vs = [.ref a, .ref bd] ∧ ClAt K H a c ∧ Ok c ∧ BdAt H bd lo hi ∧ (-3 ≤ lo ∧ lo ≤ hi ∧ hi ≤ 3 ∧ hi - lo ≤ 2) ∧
  ∀ H', Same H H' → Q (ldV (lowest c (moves lo hi))) H'
theorem sc_lowest : FnScope ["clause", "band", "best"] ["clause", "band"] (defScope s_lowest) := by walk_at "sc"
theorem ok_lowest (T : Tx w K mg) : Fn PG w K mg base 12 (ga K "lowest") (sp_lowest K) := by
  obtain ⟨fd, F⟩ := T.fn _ m_lowest
  refine fn_mk F (F.bindsN fun _ _ _ _ _ _ us hl => match us, hl with | [_, _], _ => rfl) sc_lowest (fun vs H Q E h => by obtain ⟨a, bd, c, lo, hi, rfl, ha, oc, hbd, hz, q⟩ := h; rfl) ?_
  intro cdv A outer s H vs Q E hr h
  refine ⟨_, PSs.nox (pss_cons (ps_expr (pe_cl (ok_check_clause T) (hr.mono (by decide)) (T.g "check_clause") (T.kp _ m_check_clause) (fun _ => pas0) (pa_cons (pv 0) pa_nil)))
    (pss_cons (ps_expr (pe_cl (ok_check_band T) (hr.mono (by decide)) (T.g "check_band") (T.kp _ m_check_band) (fun _ => pas0) (pa_cons (pv 1) pa_nil)))
    (pss_cons (ps_set (i := 2) sc_lowest.nd rfl (Or.inl rfl) (pe_ml0 (pe_cl (ok_web_alone T) (hr.mono (by decide)) (T.g "web_alone") (T.kp _ m_web_alone) (fun _ => pas0) (pa_cons (pv 0) (pa_cons (pv 1) (pa_cons (pe_un un_neg pe_int) pa_nil)))) (T.cls "Web" (by decide +kernel)) (T.meth "Web" "highest" (by decide +kernel)) (ok_Web_highest T) (hr.mono (by decide)) (fun _ => pas0)))
    (pss_one (ps_ret (pe_ifExp (pt_cmpR op_isN (pv 2) pe_non (nomark _)) pe_str (pe_un un_neg (pe_callB (cr_max rfl) rfl (T.f "max") (by decide +kernel) (pa_cons (pv 2) pa_nil))))))))), ?_⟩
  obtain ⟨a, bd, c, lo, hi, rfl, ha, oc, hbd, hz, q⟩ := h
  walk_at "rd"
  refine ⟨_, _, rfl, ha, ?_⟩
  walk_at "rd"
  refine ⟨⟨hz.1, hz.2.1, hz.2.2.1⟩, ?_⟩
  walk_at "rd"
  refine ⟨a, bd, c, lo, hi, rfl, ha, oc, hbd, hz, fun H1 x S1 hw => ?_⟩
  have ok := walk_ok oc hz
  obtain ⟨dx, ln, pd, ls, lo', svs, ovs, hx, _⟩ := id hw.st
  walk_at "rd"
  refine ⟨Sd, inferInstance, x, _, rfl, hw, ok, fun e H' S => ?_, fun best e H' p S hp => ?_⟩
  · have q1 := q H' (S1.trans S)
    rw [show lowest c (moves lo hi) = none by unfold lowest leadW; rw [e]; rfl] at q1
    walk_at "rd"
    exact q1
  · obtain ⟨ms, Ss, G, h1, h2, _⟩ := ok.ok
    obtain ⟨hi1, hi2⟩ := high_ints h1 h2 e
    have hp2 : H' p = some (.lst ((intsOf best).map V.int)) := by
      rw [hp]
      conv => lhs; rw [hi1, List.map_map]
      rfl
    walk_at "rd"
    refine ⟨hi2, fun m hm hle => ?_⟩
    have q1 := q H' (S1.trans S)
    rw [show lowest c (moves lo hi) = some (-m) by unfold lowest leadW; rw [e]; exact congrArg (fun z => some (-z)) (maxL_uniq hm hle).symm] at q1
    exact ⟨_, rfl, q1⟩
end
end K56
namespace K56
open PySem PySem.Spec PyProof.Rows L2
local macro_rules | `(tactic| walk_at "rd") => `(tactic| repeat (first | (refine ⟨_, rfl, ?_⟩) | (refine ⟨_, _, rfl, rfl, ?_⟩) | (refine ⟨rfl, ?_⟩) | (refine ⟨_, (by assumption : _ = some (HO.tup _)), ?_⟩) | (refine ⟨_, _, _, _, rfl, rfl, SqT.of (by assumption), rfl, ?_⟩) | (refine ⟨_, _, _, _, rfl, rfl, SqL.of (by assumption), rfl, ?_⟩) | (refine ⟨_, _, rfl, .inr (SqT.of (by assumption)), ?_⟩) | (refine ⟨_, _, rfl, .inl (SqL.of (by assumption)), ?_⟩) | (refine ⟨_, _, rfl, SqT.of (by assumption), rfl, ?_⟩) | (refine ⟨_, _, _, _, _, rfl, (by assumption : _ = some (HO.ins _ _ _)), Tx.cls (by assumption) _ (by decide +kernel), Tx.noat (by assumption) _ _ (by decide +kernel), rfl, ?_⟩) | (refine ⟨_, _, _, rfl, (by assumption : _ = some (HO.ins _ _ _)), _, _, rfl, (by assumption : ClAt _ _ _ _), ?_⟩) | (refine ⟨_, _, _, _, rfl, (by assumption : _ = some (HO.ins _ _ _)), Tx.cls (by assumption) _ (by decide +kernel), Tx.noat (by assumption) _ _ (by decide +kernel), Nat.le_of_ble_eq_true rfl, ?_⟩) | (refine ⟨_, _, rfl, SqT.of (by assumption), ?_⟩) | (refine ⟨_, _, rfl, SqL.of (by assumption), ?_⟩) | (refine ⟨_, _, rfl, ?_⟩) | (refine ⟨_, _, _, rfl, (by assumption : _ = some (HO.ins _ _ _)), ?_⟩) | (refine ⟨_, _, _, rfl, (by assumption : _ = some (HO.tup _)), ?_⟩) | (refine ⟨_, _, _, rfl, (by assumption : ClAt _ _ _ _), ?_⟩) | (refine ⟨_, _, _, _, _, rfl, (by assumption : ClAt _ _ _ _), (by assumption : _ = some (HO.tup _)), ?_⟩) | (refine ⟨.inl ⟨rfl, _, SqL.of (by assumption)⟩, ?_⟩) | (refine ⟨⟨_, SqL.of (by assumption)⟩, ?_⟩) | (refine ⟨⟨_, SqT.of (by assumption)⟩, ?_⟩) | (with_reducible refine ite_t ?kc ?kg; (case kc => simp; done)) | (with_reducible refine ite_f ?kc ?kg; (case kc => simp; done))))
local macro_rules | `(tactic| walk_at "sc") => `(tactic| exact ⟨rfl, rfl, rfl, by decide +kernel, rfl, by decide +kernel, by decide +kernel⟩)
theorem findSome_drop {α β : Type} (f : α → Option β) {l : List α} {i : Nat} {x : α} (h : l[i]? = some x) : (l.drop i).findSome? f = (f x).or ((l.drop (i + 1)).findSome? f) := by
  obtain ⟨hi, e⟩ := List.getElem?_eq_some_iff.mp h
  rw [List.drop_eq_getElem_cons hi, e, List.findSome?_cons]
  cases f x <;> rfl
theorem find_drop {α : Type} (f : α → Bool) {l : List α} {i : Nat} {x : α} (h : l[i]? = some x) : (l.drop i).find? f = if f x = true then some x else (l.drop (i + 1)).find? f := by
  obtain ⟨hi, e⟩ := List.getElem?_eq_some_iff.mp h
  rw [List.drop_eq_getElem_cons hi, e, List.find?_cons]
  cases f x <;> rfl
section
variable {w : World} {K : PySem.W.Frag} {mg : Str → Option Value} {base : Heap}
def sp_parting (K : PySem.W.Frag) : Sp := fun vs H Q _ => ∃ (a b bd : Addr) (c d : Pt) (lo hi : Int), vs = [.ref a, .ref b, .ref bd] ∧ ClAt K H a c ∧ ClAt K H b d ∧ Ok c ∧ Ok d ∧ BdAt H bd lo hi ∧ (-3 ≤ lo ∧ lo ≤ hi ∧ hi ≤ 3 ∧ hi - lo ≤ 2) ∧
  ∀ H' v, Same H H' → ptgV (parting c d (moves lo hi)) H' v → Q v H'
theorem sc_parting : FnScope ["one", "other", "band", "web", "place", "steps", "goal", "gain", "move"] ["one", "other", "band"] (defScope s_parting) := by walk_at "sc"
theorem ok_parting (T : Tx w K mg) : Fn PG w K mg base 12 (ga K "parting") (sp_parting K) := by
  obtain ⟨fd, F⟩ := T.fn _ m_parting
  refine fn_mk F (F.bindsN fun _ _ _ _ _ _ us hl => match us, hl with | [_, _, _], _ => rfl) sc_parting (fun vs H Q E h => by obtain ⟨a, b, bd, c, d, lo, hi, rfl, ha, hb, oc, od, hbd, hz, q⟩ := h; rfl) ?_
  intro cdv A outer s H vs Q E hr h
  refine ⟨_, PSs.nox (pss_cons (ps_set (i := 3) sc_parting.nd rfl (Or.inl rfl) (pe_cl (ok_checked T) (hr.mono (by decide)) (T.g "checked") (T.kp _ m_checked) (fun _ => pas0) (pa_cons (pv 0) (pa_cons (pv 1) (pa_cons (pv 2) pa_nil)))))
    (pss_cons (ps_for PassesOwn.never rfl (pi_enum rfl (T.f "enumerate") (pa_cons (pe_fld (pv 3) rfl) pa_nil)) (pg_tup rfl (pgs_cons (pg_name (i := 4) sc_parting.nd rfl (Or.inl rfl)) (pgs_cons (pg_name (i := 5) sc_parting.nd rfl (Or.inl rfl)) pgs_nil))) (pss_one (ps_for PassesOwn.never rfl (pi_list (pv 5)) (pg_tup rfl (pgs_cons (pg_name (i := 6) sc_parting.nd rfl (Or.inl rfl)) (pgs_cons (pg_name (i := 7) sc_parting.nd rfl (Or.inl rfl)) (pgs_cons (pg_name (i := 8) sc_parting.nd rfl (Or.inl rfl)) pgs_nil)))) (pss_one (ps_if (pt_cmpR op_ne (pv 7) pe_int (nomark _)) (pss_one (ps_ret (pe_tup (StX.pa_star (pe_ml (pv 3) (T.cls "Web" (by decide +kernel)) (T.meth "Web" "course_to" (by decide +kernel)) (ok_Web_course_to T) (hr.mono (by decide)) (fun _ => pas0) (pa_cons (pv 4) pa_nil)) (pa_cons (pv 8) pa_nil))))) pss_nil)))))
    (pss_one (ps_ret pe_non)))), ?_⟩
  obtain ⟨a, b, bd, c, d, lo, hi, rfl, ha, hb, oc, od, hbd, hz, q⟩ := h
  walk_at "rd"
  refine ⟨a, b, bd, c, d, lo, hi, rfl, ha, hb, oc, od, hbd, hz, fun H1 x S1 hw => ?_⟩
  have ok := race_ok oc od hz
  have eq : parting c d (moves lo hi) = partW (raceW c d (moves lo hi)) := rfl
  rw [eq] at q
  generalize raceW c d (moves lo hi) = wb at hw ok q
  obtain ⟨dx, ln, pd, ls, lo', svs, ovs, hx, hls, hsv, hlo, hov⟩ := id hw.st
  obtain ⟨ms, Ss, G, h1, h2, _⟩ := ok.ok
  have hsl : svs.length = wb.steps.length := Paired.length hsv
  walk_at "rd"
  refine for_it (walk_enum (xs := svs)) (fun i σ H2 => (∃ v4 v5 v6 v7 v8, σ = [some (.ref a), some (.ref b), some (.ref bd), some (.ref x), v4, v5, v6, v7, v8]) ∧ Same H1 H2 ∧ (wb.steps.zipIdx.drop i).findSome? (partF wb.orig) = partW wb)
    ⟨⟨_, _, _, _, _, rfl⟩, .refl _, rfl⟩ (fun _ _ H2 _ h => SqL.of (h.2.1 _ _ hls)) (fun i v σ H2 H3 hi' h hy => ?_) fun σ H2 h => ?_
  · obtain ⟨⟨v4, v5, v6, v7, v8, rfl⟩, S2, f2⟩ := h
    obtain ⟨Tt, xx, yy, rfl, hT, rfl, e5, e6⟩ := hy
    have e5' := Option.some.inj e5
    subst e5'
    have hsi : wb.steps[i]? = some (wb.steps[i]'(by omega)) := List.getElem?_eq_getElem _
    obtain ⟨vl, hvl, al, vs, rfl, hal, hvs⟩ := K56.Paired.get hsv hsi
    have e6' : svs[i]? = some yy := e6
    rw [hvl] at e6'
    obtain rfl := Option.some.inj e6'
    have hzi : wb.steps.zipIdx[i]? = some (wb.steps[i]'(by omega), i) := by
      rw [List.getElem?_zipIdx, hsi]
      simp
    rw [findSome_drop _ hzi] at f2
    generalize (wb.steps[i]'(by omega) : List Step) = sts at hvs f2
    generalize e3 : upd H2 Tt _ = H3
    have S3 : Same H1 H3 := S2.trans (e3 ▸ same_new hT)
    have u3 : H3 Tt = _ := e3 ▸ upd_same
    have hal3 := S3 _ _ hal
    have hvsl : vs.length = sts.length := Paired.length hvs
    walk_at "rd"
    refine for_it (walk_list (xs := vs)) (fun j σ H4 => (∃ v6 v7 v8, σ = [some (.ref a), some (.ref b), some (.ref bd), some (.ref x), some (.int (i : Nat)), some (.ref al), v6, v7, v8]) ∧ Same H3 H4 ∧ (sts.drop j).find? (fun s => decide (s.2.1 ≠ 0)) = sts.find? fun s => decide (s.2.1 ≠ 0))
      ⟨⟨_, _, _, rfl⟩, .refl _, rfl⟩ (fun _ _ H4 _ h => SqL.of (h.2.1 _ _ hal3)) (fun j v σ H4 H5 hj h hy => ?_) fun σ H4 h => ?_
    · obtain ⟨e45, hvj⟩ := hy
      subst H5
      obtain ⟨⟨v6, v7, v8, rfl⟩, S4, f4⟩ := h
      have hstj : sts[j]? = some (sts[j]'(by omega)) := List.getElem?_eq_getElem _
      obtain ⟨vt, hvt, t, rfl, ht⟩ := K56.Paired.get hvs hstj
      rw [hvt] at hvj
      obtain rfl := Option.some.inj hvj
      rw [find_drop _ hstj] at f4
      generalize (sts[j]'(by omega) : Step) = s at ht f4
      have ht4 := (S3.trans S4) _ _ ht
      walk_at "rd"
      by_cases c : s.2.1 = 0
      · rw [if_neg (by simpa using c)] at f4
        refine ite_f (by simp [c]) ?_
        walk_at "rd"
        exact ⟨⟨_, _, _, rfl⟩, S4, f4⟩
      · rw [if_pos (by simpa using c)] at f4
        have hpw : partW wb = some (course wb.orig i ++ [s.2.2]) := by
          rw [← f2]
          unfold partF
          rw [← f4]
          rfl
        have S14 := S3.trans S4
        have hw4 := hw.mono S14
        have hx4 := S14 _ _ hx
        refine ite_t (by simp [c]) ?_
        walk_at "rd"
        refine ⟨_, inferInstance, x, wb, i, rfl, hw4, ok, by omega, fun H5 t5 S5 h5 => ?_⟩
        walk_at "rd"
        refine ⟨_, _, rfl, .inl (SqT.of h5), ?_⟩
        walk_at "rd"
        refine ⟨?_, fun p hp => q _ _ (((S1.trans S14).trans S5).trans (same_new hp)) ?_⟩
        · rw [List.length_append, List.length_map]
          have := back_len wb.orig (i + 1) i
          unfold course
          rw [List.length_reverse, sizeLine_eq]
          show _ + 1 ≤ _
          omega
        · rw [hpw]
          refine ⟨p, rfl, ?_⟩
          rw [upd_same, List.map_append]
          rfl
    · obtain ⟨⟨v6, v7, v8, rfl⟩, S4, f4⟩ := h
      rw [hvsl, List.drop_length] at f4
      have : partF wb.orig (sts, i) = none := by
        unfold partF
        rw [← f4]
        rfl
      rw [this] at f2
      exact ⟨⟨_, _, _, _, _, rfl⟩, S3.trans S4, f2⟩
  · obtain ⟨⟨v4, v5, v6, v7, v8, rfl⟩, S2, f2⟩ := h
    rw [show svs.length = wb.steps.zipIdx.length by rw [hsl]; simp, List.drop_length] at f2
    walk_at "rd"
    refine q H2 _ (S1.trans S2) ?_
    rw [← f2]
    rfl
end
end K56
namespace K56
open PySem PySem.Spec PyProof.Rows L2
local macro_rules | `(tactic| walk_at "rd") => `(tactic| repeat (first | (refine ⟨_, rfl, ?_⟩) | (refine ⟨_, _, rfl, rfl, ?_⟩) | (refine ⟨rfl, ?_⟩) | (refine ⟨_, (by assumption : _ = some (HO.tup _)), ?_⟩) | (refine ⟨_, _, _, _, rfl, rfl, SqT.of (by assumption), rfl, ?_⟩) | (refine ⟨_, _, _, _, rfl, rfl, SqL.of (by assumption), rfl, ?_⟩) | (refine ⟨_, _, rfl, .inr (SqT.of (by assumption)), ?_⟩) | (refine ⟨_, _, rfl, .inl (SqL.of (by assumption)), ?_⟩) | (refine ⟨_, _, rfl, SqT.of (by assumption), rfl, ?_⟩) | (refine ⟨_, _, _, _, _, rfl, (by assumption : _ = some (HO.ins _ _ _)), Tx.cls (by assumption) _ (by decide +kernel), Tx.noat (by assumption) _ _ (by decide +kernel), rfl, ?_⟩) | (refine ⟨_, _, _, rfl, (by assumption : _ = some (HO.ins _ _ _)), _, _, rfl, (by assumption : ClAt _ _ _ _), ?_⟩) | (refine ⟨_, _, _, _, rfl, (by assumption : _ = some (HO.ins _ _ _)), Tx.cls (by assumption) _ (by decide +kernel), Tx.noat (by assumption) _ _ (by decide +kernel), Nat.le_of_ble_eq_true rfl, ?_⟩) | (refine ⟨_, _, rfl, SqT.of (by assumption), ?_⟩) | (refine ⟨_, _, rfl, SqL.of (by assumption), ?_⟩) | (refine ⟨_, _, rfl, ?_⟩) | (refine ⟨_, _, _, rfl, (by assumption : _ = some (HO.ins _ _ _)), ?_⟩) | (refine ⟨_, _, _, rfl, (by assumption : _ = some (HO.tup _)), ?_⟩) | (refine ⟨_, _, _, rfl, (by assumption : ClAt _ _ _ _), ?_⟩) | (refine ⟨_, _, _, _, _, rfl, (by assumption : ClAt _ _ _ _), (by assumption : _ = some (HO.tup _)), ?_⟩) | (refine ⟨.inl ⟨rfl, _, SqL.of (by assumption)⟩, ?_⟩) | (refine ⟨⟨_, SqL.of (by assumption)⟩, ?_⟩) | (refine ⟨⟨_, SqT.of (by assumption)⟩, ?_⟩) | (with_reducible refine ite_t ?kc ?kg; (case kc => simp; done)) | (with_reducible refine ite_f ?kc ?kg; (case kc => simp; done))))
local macro_rules | `(tactic| walk_at "sc") => `(tactic| exact ⟨rfl, rfl, rfl, by decide +kernel, rfl, by decide +kernel, by decide +kernel⟩)
def nmS : Nm → Str
  | false => "one"
  | true => "onto"
theorem nmS_inj {n m : Nm} : nmS n = nmS m ↔ n = m := by
  cases n <;> cases m <;> decide
def cmV : Cm → List V
  | .above n m k => [.str "never above", .str (nmS n), .str (nmS m), .int k]
  | .alike n m => [.str "alike", .str (nmS n), .str (nmS m)]
  | .below n k => [.str "never below", .str (nmS n), .int k]
abbrev CmAt (H : Hp) (a : Addr) (c : Cm) : Prop := H a = some (.tup (cmV c))
def Cm.ok : Cm → Prop
  | .above _ _ k => 0 ≤ k ∧ k ≤ 10 ^ 30
  | .alike _ _ => True
  | .below _ k => 0 ≤ k ∧ k ≤ 10 ^ 30
def tbK (t : Tb) : List (Key × V) := t.map fun p => (.inr (nmS p.1), .ref p.2.1)
def TbV (K : PySem.W.Frag) (H : Hp) (t : Tb) : Prop := ∀ p ∈ t, ClAt K H p.2.1 p.2.2 ∧ Ok p.2.2
theorem TbV.mono {K : PySem.W.Frag} {H H' : Hp} (e : Same H H') {t : Tb} (h : TbV K H t) : TbV K H' t := fun p hp => ⟨(h p hp).1.mono e, (h p hp).2⟩
theorem valV_tb (n : Nm) : ∀ t : Tb, valV (tbK t) (.inr (nmS n)) = (getT t n).map fun a => V.ref a.1
  | [] => rfl
  | p :: t => by
    have ih := valV_tb n t
    unfold getT at ih ⊢
    by_cases c : p.1 = n
    · rw [show tbK (p :: t) = (.inr (nmS p.1), .ref p.2.1) :: tbK t from rfl, valV_pos (by rw [c]), List.find?_cons_of_pos (by simp [c])]
      rfl
    · rw [show tbK (p :: t) = (.inr (nmS p.1), .ref p.2.1) :: tbK t from rfl, valV_neg (fun e => c (nmS_inj.mp (Sum.inr.inj e))), List.find?_cons_of_neg (by simp [c])]
      exact ih
theorem dget_tb {H : Hp} {a : Addr} {t : Tb} (h : Rd H a (.dK (tbK t))) (n : Nm) : DGet H a (.str (nmS n)) ((getT t n).map fun a => V.ref a.1) := by
  rw [← valV_tb]
  exact .inl ⟨_, .inr (nmS n), h, rfl, rfl⟩
section
variable {w : World} {K : PySem.W.Frag} {mg : Str → Option Value} {base : Heap}
def sp_is_name : Sp := fun vs H Q _ => ∃ n : Nm, vs = [.str (nmS n)] ∧ ∀ H', Same H H' → Q (.bl true) H'
theorem sc_is_name : FnScope ["value", "sign"] ["value"] (defScope s_is_name) := by walk_at "sc"
theorem ok_is_name (T : Tx w K mg) : Fn PG w K mg base 1 (ga K "is_name") sp_is_name := by
  obtain ⟨fd, F⟩ := T.fn _ m_is_name
  refine fn_mk F (F.bindsN fun _ _ _ _ _ _ us hl => match us, hl with | [_], _ => rfl) sc_is_name (fun vs H Q E h => by obtain ⟨n, rfl, q⟩ := h; rfl) ?_
  intro cdv A outer s H vs Q E hr h
  refine ⟨_, PSs.nox (pss_one (ps_ret (pe_and (pe_callB call_isiS rfl (T.f "isinstance") (by decide +kernel) (pa_cons (pv 0) (pa_cons (pe_tyN "str" T) pa_nil))) (pe_and (pe_chain op_lt op_lt pe_int (pe_callB call_len_str rfl (T.f "len") (by decide +kernel) (pa_cons (pv 0) pa_nil)) pe_int) (pe_one (pe_callB (cr_all rfl) rfl (T.f "all") (by decide +kernel) (pa_cons (pe_lc (own := [("sign", 1)]) (g := gName 1) rfl sc_is_name.nd (pi_str (pv 0)) (blkOk_by (N := ["value", "sign"]) (sc := defScope s_is_name) (by decide +kernel)) (fun _ _ _ _ _ => (pg_name (i := 1) sc_is_name.nd rfl (Or.inl rfl))) (fun _ _ _ _ _ => pts_nil) (fun _ _ _ _ _ => (pe_cmpR op_in_sign (pv 1) (pe_gS T "LETTERS" "abcdefghijklmnopqrstuvwxyz") rfl))) pa_nil))))))), ?_⟩
  obtain ⟨n, rfl, q⟩ := h
  have key : ∀ i, (hi : i < (nmS n).cps.size) → ((nmS n).cps[i]'hi) ∈ ("abcdefghijklmnopqrstuvwxyz" : Str).cps.toList := by
    cases n <;> decide +kernel
  have h0 : (0 : Int) < ((nmS n).length : Nat) := by cases n <;> decide +kernel
  have h9 : (((nmS n).length : Nat) : Int) < 9 := by cases n <;> decide +kernel
  have hl : (nmS n).cps.size ≤ 8 := by cases n <;> decide +kernel
  walk_at "rd"
  refine ⟨by cases n <;> decide +kernel, ?_⟩
  walk_at "rd"
  refine ite_dt h0 ?_
  walk_at "rd"
  refine ite_dt h9 ?_
  walk_at "rd"
  refine fun D hD => lc_it (walk_str) (fun i H1 => Same H H1 ∧ H1 D = some (.lst ((List.replicate i true).map V.bl))) ⟨same_new hD, upd_same⟩ (fun _ _ _ _ => True.intro) (fun i x H1 H2 hi h hy => ?_) fun H1 h => ?_
  · obtain ⟨rfl, c, hc, rfl⟩ := hy
    obtain ⟨S, f⟩ := h
    have hin : c ∈ ("abcdefghijklmnopqrstuvwxyz" : Str).cps.toList := by
      have := key i hi
      rw [Array.getElem?_eq_getElem hi] at hc
      rw [← Option.some.inj hc]
      exact this
    walk_at "rd"
    rw [decide_eq_true hin]
    refine ⟨_, f, ?_, fun b u e2 => ?_, ?_⟩
    · rw [List.length_map, List.length_replicate, sizeLine_eq]
      omega
    · rw [upd_ne (ne_of_none e2 hD)]
      exact S _ _ e2
    · rw [upd_same, List.replicate_succ', List.map_append]
      rfl
  · obtain ⟨S, f⟩ := h
    walk_at "rd"
    rw [show (List.replicate (nmS n).cps.size true).all id = true by simp]
    exact q H1 S
def nmL (l : List Nm) : List V := l.map fun n => .str (nmS n)
def sp_names_of : Sp := fun vs H Q _ => ∃ (a : Addr) (c : Cm), vs = [.ref a] ∧ CmAt H a c ∧ ∀ p, H p = none → Q (.ref p) (upd H p (.tup (nmL c.names)))
theorem sc_names_of : FnScope ["claim"] ["claim"] (defScope s_names_of) := by walk_at "sc"
theorem ok_names_of (T : Tx w K mg) : Fn PG w K mg base 1 (ga K "names_of") sp_names_of := by
  obtain ⟨fd, F⟩ := T.fn _ m_names_of
  refine fn_mk F (F.bindsN fun _ _ _ _ _ _ us hl => match us, hl with | [_], _ => rfl) sc_names_of (fun vs H Q E h => by obtain ⟨a, c, rfl, hc, q⟩ := h; rfl) ?_
  intro cdv A outer s H vs Q E hr h
  refine ⟨_, PSs.nox (pss_one (ps_ret (pe_ifExp (pt_cmpR op_eq (pe_ix ix_tup (pv 0) pe_int (fun _ _ => rfl)) pe_str (nomark _)) (pe_tup (pa_cons (pe_ix ix_tup (pv 0) pe_int (fun _ _ => rfl)) pa_nil)) (pe_slice sl_tupA (pv 0) (po_some pe_int) (po_some pe_int))))), ?_⟩
  obtain ⟨a, c, rfl, hc, q⟩ := h
  cases c with
  | above n m k =>
    have hc : H a = some (.tup [.str "never above", .str (nmS n), .str (nmS m), .int k]) := hc
    walk_at "rd"
    exact ⟨fun z => absurd z.1 (show ¬ HT.sIx 4 0 (some 1) = 0 by decide), fun _ p hp => q p hp⟩
  | alike n m =>
    have hc : H a = some (.tup [.str "alike", .str (nmS n), .str (nmS m)]) := hc
    walk_at "rd"
    exact ⟨fun z => absurd z.1 (show ¬ HT.sIx 3 0 (some 1) = 0 by decide), fun _ p hp => q p hp⟩
  | below n k =>
    have hc : H a = some (.tup [.str "never below", .str (nmS n), .int k]) := hc
    walk_at "rd"
    exact ⟨by show 1 ≤ sizeLine; decide, q⟩
def sp_is_under : Sp := fun vs H Q _ => ∃ (a : Addr) (n : Nm) (t : Tb), vs = [.ref a, .str (nmS n)] ∧ Rd H a (.dK (tbK t)) ∧ Q (.bl (hasT t n)) H
theorem sc_is_under : FnScope ["table", "name"] ["table", "name"] (defScope s_is_under) := by walk_at "sc"
theorem ok_is_under (T : Tx w K mg) : Fn PG w K mg base 1 (ga K "is_under") sp_is_under := by
  obtain ⟨fd, F⟩ := T.fn _ m_is_under
  refine fn_mk F (F.bindsN fun _ _ _ _ _ _ us hl => match us, hl with | [_, _], _ => rfl) sc_is_under (fun vs H Q E h => by obtain ⟨a, n, t, rfl, ht, q⟩ := h; rfl) ?_
  intro cdv A outer s H vs Q E hr h
  refine ⟨_, PSs.nox (pss_one (ps_ret (pe_and (pe_callB call_isiS rfl (T.f "isinstance") (by decide +kernel) (pa_cons (pv 1) (pa_cons (pe_tyN "str" T) pa_nil))) (pe_one (pe_cmp (pc_din (hu_le hr) (pv 1) (pv 0)) rfl))))), ?_⟩
  obtain ⟨a, n, t, rfl, ht, q⟩ := h
  walk_at "rd"
  refine ⟨_, _, rfl, dget_tb ht n, ?_⟩
  rw [Option.isSome_map]
  exact q
def sp_is_claim : Sp := fun vs H Q _ => ∃ (a : Addr) (c : Cm), vs = [.ref a] ∧ CmAt H a c ∧ c.ok ∧ Q (.bl true) H
theorem sc_is_claim : FnScope ["value"] ["value"] (defScope s_is_claim) := by walk_at "sc"
theorem ok_is_claim (T : Tx w K mg) : Fn PG w K mg base 2 (ga K "is_claim") sp_is_claim := by
  obtain ⟨fd, F⟩ := T.fn _ m_is_claim
  refine fn_mk F (F.bindsN fun _ _ _ _ _ _ us hl => match us, hl with | [_], _ => rfl) sc_is_claim (fun vs H Q E h => by obtain ⟨a, c, rfl, hc, ok, q⟩ := h; rfl) ?_
  intro cdv A outer s H vs Q E hr h
  obtain ⟨es, sn, hD⟩ := T.sizes
  refine ⟨_, PSs.nox (pss_cons (ps_if (PW.pt (pw_or (pt_not (pt_val (pe_callB call_isiTu rfl (T.f "isinstance") (by decide +kernel) (pa_cons (pv 0) (pa_cons (pe_tyN "tuple" T) pa_nil))))) (pw_or (pt_cmpR op_eq (pe_callB call_len_seq rfl (T.f "len") (by decide +kernel) (pa_cons (pv 0) pa_nil)) pe_int (nomark _)) (pw_or1 (pt_not (pt_val (pe_callB call_isiS rfl (T.f "isinstance") (by decide +kernel) (pa_cons (pe_ix ix_tup (pv 0) pe_int (fun _ _ => rfl)) (pa_cons (pe_tyN "str" T) pa_nil))))))))) (pss_one (ps_ret pe_bl)) pss_nil)
    (pss_cons (ps_if (pt_cmpR op_ne (pe_kget hD rfl (T.g "SIZES") (pe_ix ix_tup (pv 0) pe_int (fun _ _ => rfl)) ⟨rfl, rfl, rfl, rfl⟩) (pe_callB call_len_seq rfl (T.f "len") (by decide +kernel) (pa_cons (pv 0) pa_nil)) (nomark _)) (pss_one (ps_ret pe_bl)) pss_nil)
    (pss_one (ps_ret (pe_or (pe_cmpR op_eq (pe_ix ix_tup (pv 0) pe_int (fun _ _ => rfl)) pe_str (nomark _)) (pe_one (pe_and (pe_cl (ok_is_integer T) (hr.mono (by decide)) (T.g "is_integer") (T.kp _ m_is_integer) (fun _ => pas0) (pa_cons (pe_ix ix_tup (pv 0) (pe_un un_neg pe_int) (fun _ _ => rfl)) pa_nil)) (pe_one (pe_cmpR op_ge (pe_ix ix_tup (pv 0) (pe_un un_neg pe_int) (fun _ _ => rfl)) pe_int (nomark _)))))))))), ?_⟩
  obtain ⟨a, c, rfl, hc, ok, q⟩ := h
  cases c with
  | above n m k =>
    have hc : H a = some (.tup [.str "never above", .str (nmS n), .str (nmS m), .int k]) := hc
    walk_at "rd"
    obtain ⟨tt, hs⟩ := T.size4
    refine ⟨_, _, .int 4, rfl, hs, fun u e => by (cases e; exact ⟨tt, rfl⟩), nofun, ?_⟩
    walk_at "rd"
    show Q (.bl (decide (0 ≤ k))) H
    rw [decide_eq_true ok.1]
    exact q
  | alike n m =>
    have hc : H a = some (.tup [.str "alike", .str (nmS n), .str (nmS m)]) := hc
    walk_at "rd"
    obtain ⟨tt, hs⟩ := T.size3
    refine ⟨_, _, .int 3, rfl, hs, fun u e => by (cases e; exact ⟨tt, rfl⟩), nofun, ?_⟩
    walk_at "rd"
    exact q
  | below n k =>
    have hc : H a = some (.tup [.str "never below", .str (nmS n), .int k]) := hc
    walk_at "rd"
    obtain ⟨tt, hs⟩ := T.size2
    refine ⟨_, _, .int 3, rfl, hs, fun u e => by (cases e; exact ⟨tt, rfl⟩), nofun, ?_⟩
    walk_at "rd"
    show Q (.bl (decide (0 ≤ k))) H
    rw [decide_eq_true ok.1]
    exact q
end
end K56
namespace K56
open PySem PySem.Spec PyProof.Rows L2
local macro_rules | `(tactic| walk_at "rd") => `(tactic| repeat (first | (refine ⟨_, rfl, ?_⟩) | (refine ⟨_, _, rfl, rfl, ?_⟩) | (refine ⟨rfl, ?_⟩) | (refine ⟨_, (by assumption : _ = some (HO.tup _)), ?_⟩) | (refine ⟨_, _, _, _, rfl, rfl, SqT.of (by assumption), rfl, ?_⟩) | (refine ⟨_, _, _, _, rfl, rfl, SqL.of (by assumption), rfl, ?_⟩) | (refine ⟨_, _, rfl, .inr (SqT.of (by assumption)), ?_⟩) | (refine ⟨_, _, rfl, .inl (SqL.of (by assumption)), ?_⟩) | (refine ⟨_, _, rfl, SqT.of (by assumption), rfl, ?_⟩) | (refine ⟨_, _, _, _, _, rfl, (by assumption : _ = some (HO.ins _ _ _)), Tx.cls (by assumption) _ (by decide +kernel), Tx.noat (by assumption) _ _ (by decide +kernel), rfl, ?_⟩) | (refine ⟨_, _, _, rfl, (by assumption : _ = some (HO.ins _ _ _)), _, _, rfl, (by assumption : ClAt _ _ _ _), ?_⟩) | (refine ⟨_, _, _, _, rfl, (by assumption : _ = some (HO.ins _ _ _)), Tx.cls (by assumption) _ (by decide +kernel), Tx.noat (by assumption) _ _ (by decide +kernel), Nat.le_of_ble_eq_true rfl, ?_⟩) | (refine ⟨_, _, rfl, SqT.of (by assumption), ?_⟩) | (refine ⟨_, _, rfl, SqL.of (by assumption), ?_⟩) | (refine ⟨_, _, rfl, ?_⟩) | (refine ⟨_, _, _, rfl, (by assumption : _ = some (HO.ins _ _ _)), ?_⟩) | (refine ⟨_, _, _, rfl, (by assumption : _ = some (HO.tup _)), ?_⟩) | (refine ⟨_, _, _, rfl, (by assumption : ClAt _ _ _ _), ?_⟩) | (refine ⟨_, _, _, _, _, rfl, (by assumption : ClAt _ _ _ _), (by assumption : _ = some (HO.tup _)), ?_⟩) | (refine ⟨.inl ⟨rfl, _, SqL.of (by assumption)⟩, ?_⟩) | (refine ⟨⟨_, SqL.of (by assumption)⟩, ?_⟩) | (refine ⟨⟨_, SqT.of (by assumption)⟩, ?_⟩) | (with_reducible refine ite_t ?kc ?kg; (case kc => simp; done)) | (with_reducible refine ite_f ?kc ?kg; (case kc => simp; done))))
local macro_rules | `(tactic| walk_at "sc") => `(tactic| exact ⟨rfl, rfl, rfl, by decide +kernel, rfl, by decide +kernel, by decide +kernel⟩)
section
variable {w : World} {K : PySem.W.Frag} {mg : Str → Option Value} {base : Heap}
def sp_check_claim (K : PySem.W.Frag) : Sp := fun vs H Q E => ∃ (d a : Addr) (c : Cm) (t : Tb), vs = [.ref d, .ref a] ∧ Rd H d (.dK (tbK t)) ∧ CmAt H a c ∧ c.ok ∧
  ((c.names.find? fun n => !hasT t n) = none → ∀ H', Same H H' → Q .non H') ∧
  ∀ n, (c.names.find? fun n => !hasT t n) = some n → ∀ H' x, Same H H' → H' x = some (.xd [("given", .str (nmS n))]) → E (.ref (ga K "UnknownName")) (some x) H'
theorem Rd.mono {H H' : Hp} (e : Same H H') {a : Addr} {u : HO} (h : Rd H a u) : Rd H' a u := by
  rcases h with h | ⟨o, h⟩
  · exact .inl (e _ _ h)
  · exact .inr ⟨o, e _ _ h⟩
theorem sc_check_claim : FnScope ["table", "claim", "name"] ["table", "claim"] (defScope s_check_claim) := by walk_at "sc"
theorem ok_check_claim (T : Tx w K mg) : Fn PG w K mg base 3 (ga K "check_claim") (sp_check_claim K) := by
  obtain ⟨fd, F⟩ := T.fn _ m_check_claim
  refine fn_mk F (F.bindsN fun _ _ _ _ _ _ us hl => match us, hl with | [_, _], _ => rfl) sc_check_claim (fun vs H Q E h => by obtain ⟨d, a, c, t, rfl, hd, hc, ok, q0, q1⟩ := h; rfl) ?_
  intro cdv A outer s H vs Q E hr h
  refine ⟨_, (pss_cons (ps_if (pt_not (pt_val (pe_cl (ok_is_claim T) (hr.mono (by decide)) (T.g "is_claim") (T.kp _ m_is_claim) (fun _ => pas0) (pa_cons (pv 1) pa_nil)))) (pss_one ps_never) pss_nil)
    (pss_one (ps_for (passes_of rfl) rfl (pi_tup (pe_cl (ok_names_of T) (hr.mono (by decide)) (T.g "names_of") (T.kp _ m_names_of) (fun _ => pas0) (pa_cons (pv 1) pa_nil))) (pg_name (i := 2) sc_check_claim.nd rfl (Or.inl rfl)) (pss_one (ps_if (pt_not (pt_val (pe_cl (ok_is_under T) (hr.mono (by decide)) (T.g "is_under") (T.kp _ m_is_under) (fun _ => pas0) (pa_cons (pv 0) (pa_cons (pv 2) pa_nil))))) (pss_one (ps_raise rfl (takes_of rfl rfl rfl rfl) (pmk_x1 T.x1 hr (pa_cons (pv 2) pa_nil) rfl))) pss_nil))))), ?_⟩
  obtain ⟨d, a, c, t, rfl, hd, hc, ok, q0, q1⟩ := h
  walk_at "rd"
  refine ⟨_, _, rfl, hc, ok, ?_⟩
  walk_at "rd"
  refine ⟨a, c, rfl, hc, fun p hp => ?_⟩
  generalize e1 : upd H p _ = H1
  have S1 : Same H H1 := e1 ▸ same_new hp
  have u1 : H1 p = some (.tup (nmL c.names)) := e1 ▸ upd_same
  walk_at "rd"
  refine for_it (walk_tup (xs := nmL c.names)) (fun i σ H2 => H2 = H1 ∧ (∃ v2, σ = [some (.ref d), some (.ref a), v2]) ∧ (c.names.drop i).find? (fun n => !hasT t n) = c.names.find? fun n => !hasT t n)
    ⟨rfl, ⟨_, rfl⟩, rfl⟩ (fun _ _ H2 _ h => h.1 ▸ SqT.of u1) (fun i v σ H2 H3 hi h hy => ?_) fun σ H2 h => ?_
  · obtain ⟨rfl, ⟨v2, rfl⟩, f⟩ := h
    obtain ⟨rfl, hv⟩ := hy
    unfold nmL at hv hi
    rw [List.length_map] at hi
    have hni : c.names[i]? = some c.names[i] := List.getElem?_eq_getElem hi
    rw [List.getElem?_map, hni] at hv
    obtain rfl := Option.some.inj hv
    rw [find_drop _ hni] at f
    generalize (c.names[i] : Nm) = n at f
    have hd3 : Rd H3 d (.dK (tbK t)) := K56.Rd.mono S1 hd
    walk_at "rd"
    refine ⟨_, _, _, rfl, hd3, ?_⟩
    cases z : hasT t n with
    | true =>
      rw [z] at f
      walk_at "rd"
      first | exact f | exact ⟨⟨_, rfl⟩, f⟩ | trace_state
    | false =>
      rw [z] at f
      walk_at "rd"
      exact fun x hx => q1 n f.symm _ x (S1.trans (same_new hx)) upd_same
  · obtain ⟨rfl, ⟨v2, rfl⟩, f⟩ := h
    unfold nmL at f
    rw [List.length_map, List.drop_length] at f
    walk_at "rd"
    exact q0 f.symm _ S1
def FdAt (H : Hp) (v : V) : Fd → Prop
  | .ld o => v = ldV o
  | .co l => ∃ t, v = .ref t ∧ H t = some (.tup (l.map V.int))
def FtAt (H : Hp) (p : Addr) : Option Fd → Prop
  | none => H p = some (.tup [])
  | some f => ∃ v, FdAt H v f ∧ H p = some (.tup [v])
theorem ft_none {H : Hp} {p : Addr} {o : Option Fd} (e : o = none) (h : H p = some (.tup [])) : FtAt H p o := by
  subst e
  exact h
theorem ft_some {H : Hp} {p : Addr} {o : Option Fd} {f : Fd} {v : V} (e : o = some f) (hv : FdAt H v f) (h : H p = some (.tup [v])) : FtAt H p o := by
  subst e
  exact ⟨v, hv, h⟩
def sp_fault_of (K : PySem.W.Frag) : Sp := fun vs H Q _ => ∃ (d bd a : Addr) (c : Cm) (t : Tb) (lo hi : Int), vs = [.ref d, .ref bd, .ref a] ∧ Rd H d (.dK (tbK t)) ∧ TbV K H t ∧ CmAt H a c ∧ (∀ n ∈ c.names, hasT t n = true) ∧ BdAt H bd lo hi ∧ (-3 ≤ lo ∧ lo ≤ hi ∧ hi ≤ 3 ∧ hi - lo ≤ 2) ∧
  ∀ H' p, Same H H' → FtAt H' p (faultC t (moves lo hi) c) → Q (.ref p) H'
theorem sc_fault_of : FnScope ["table", "band", "claim", "one", "found", "other"] ["table", "band", "claim"] (defScope s_fault_of) := by walk_at "sc"
theorem ok_fault_of (T : Tx w K mg) : Fn PG w K mg base 13 (ga K "fault_of") (sp_fault_of K) := by
  obtain ⟨fd, F⟩ := T.fn _ m_fault_of
  refine fn_mk F (F.bindsN fun _ _ _ _ _ _ us hl => match us, hl with | [_, _, _], _ => rfl) sc_fault_of (fun vs H Q E h => by obtain ⟨d, bd, a, c, t, lo, hi, rfl, hd, ht, hc, hn, hbd, hz, q⟩ := h; rfl) ?_
  intro cdv A outer s H vs Q E hr h
  refine ⟨_, PSs.nox (pss_cons (ps_set (i := 3) sc_fault_of.nd rfl (Or.inl rfl) (pe_dget (hu_le hr) (pv 0) (pe_ix ix_tup (pv 2) pe_int (fun _ _ => rfl)) (fun _ _ => rfl)))
    (pss_cons (ps_if (pt_cmpR op_eq (pe_ix ix_tup (pv 2) pe_int (fun _ _ => rfl)) pe_str (nomark _)) (pss_cons (ps_set (i := 4) sc_fault_of.nd rfl (Or.inl rfl) (pe_cl (ok_lowest T) (hr.mono (by decide)) (T.g "lowest") (T.kp _ m_lowest) (fun _ => pas0) (pa_cons (pv 3) (pa_cons (pv 1) pa_nil))))
    (pss_one (ps_ret (pe_ifExp (PW.pt (pw_and (pt_cmpR op_ne (pv 4) pe_str (nomark _)) (pw_and1 (pt_cmpR op_ge (pv 4) (pe_un un_neg (pe_ix ix_tup (pv 2) pe_int (fun _ _ => rfl))) (nomark _))))) (pe_tup pa_nil) (pe_tup (pa_cons (pv 4) pa_nil)))))) pss_nil)
    (pss_cons (ps_set (i := 5) sc_fault_of.nd rfl (Or.inl rfl) (pe_dget (hu_le hr) (pv 0) (pe_ix ix_tup (pv 2) pe_int (fun _ _ => rfl)) (fun _ _ => rfl)))
    (pss_cons (ps_if (pt_cmpR op_eq (pe_ix ix_tup (pv 2) pe_int (fun _ _ => rfl)) pe_str (nomark _)) (pss_cons (ps_set (i := 4) sc_fault_of.nd rfl (Or.inl rfl) (pe_cl (ok_parting T) (hr.mono (by decide)) (T.g "parting") (T.kp _ m_parting) (fun _ => pas0) (pa_cons (pv 3) (pa_cons (pv 5) (pa_cons (pv 1) pa_nil)))))
    (pss_one (ps_ret (pe_ifExp (pt_cmpR op_isN (pv 4) pe_non (nomark _)) (pe_tup pa_nil) (pe_tup (pa_cons (pv 4) pa_nil)))))) pss_nil)
    (pss_cons (ps_set (i := 4) sc_fault_of.nd rfl (Or.inl rfl) (pe_cl (ok_lead_in T) (hr.mono (by decide)) (T.g "lead_in") (T.kp _ m_lead_in) (fun _ => pas0) (pa_cons (pe_cl (ok_web_of T) (hr.mono (by decide)) (T.g "web_of") (T.kp _ m_web_of) (fun _ => pas0) (pa_cons (pv 3) (pa_cons (pv 5) (pa_cons (pv 1) pa_nil)))) pa_nil)))
    (pss_one (ps_ret (pe_ifExp (PW.pt (pw_and (pt_cmpR op_ne (pv 4) pe_str (nomark _)) (pw_and1 (pt_cmpR op_le (pv 4) (pe_ix ix_tup (pv 2) pe_int (fun _ _ => rfl)) (nomark _))))) (pe_tup pa_nil) (pe_tup (pa_cons (pv 4) pa_nil)))))))))), ?_⟩
  obtain ⟨d, bd, a, c, t, lo, hi, rfl, hd, ht, hc, hn, hbd, hz, q⟩ := h
  have get : ∀ n, hasT t n = true → ∃ b p, getT t n = some (b, p) ∧ DGet H d (.str (nmS n)) (some (.ref b)) ∧ ClAt K H b p ∧ Ok p := fun n h => by
    unfold hasT at h
    obtain ⟨⟨b, p⟩, e⟩ := Option.isSome_iff_exists.mp h
    have hg := dget_tb hd n
    rw [e] at hg
    have hm := ht _ (mem_getT e)
    exact ⟨b, p, e, hg, hm.1, hm.2⟩
  cases c with
  | above n m k =>
    obtain ⟨b1, p1, e1, g1, c1, o1⟩ := get n (hn n (by simp [Cm.names]))
    obtain ⟨b2, p2, e2, g2, c2, o2⟩ := get m (hn m (by simp [Cm.names]))
    have hc : H a = some (.tup [.str "never above", .str (nmS n), .str (nmS m), .int k]) := hc
    walk_at "rd"
    refine ⟨_, _, rfl, g1, ?_⟩
    walk_at "rd"
    refine ⟨_, _, rfl, g2, ?_⟩
    walk_at "rd"
    refine ⟨b1, b2, bd, p1, p2, lo, hi, rfl, c1, c2, o1, o2, hbd, hz, fun H1 x S1 hw => ?_⟩
    have hc1 := S1 _ _ hc
    walk_at "rd"
    refine ⟨Sd × Sd, inferInstance, x, _, rfl, hw, race_ok o1 o2 hz, fun H2 S2 => ?_⟩
    have hc2 := S2 _ _ hc1
    have ef : faultC t (moves lo hi) (.above n m k) = ldF (leadW (raceW p1 p2 (moves lo hi))) fun i => decide (i ≤ k) := by
      show (getT t n).bind _ = _
      rw [e1]
      show (getT t m).bind _ = _
      rw [e2]
      rfl
    rw [ef] at q
    cases hl : leadW (raceW p1 p2 (moves lo hi)) with
    | none =>
      rw [hl] at q
      walk_at "rd"
      exact ⟨by show 1 ≤ sizeLine; decide, fun p hp => q _ p ((S1.trans S2).trans (same_new hp)) (ft_some (f := .ld none) rfl rfl upd_same)⟩
    | some i =>
      rw [hl] at q
      walk_at "rd"
      refine ite_d (fun c => ?_) (fun c => ?_)
      · walk_at "rd"
        exact ⟨by show 0 ≤ sizeLine; decide, fun p hp => q _ p ((S1.trans S2).trans (same_new hp)) (ft_none (if_pos (decide_eq_true c)) upd_same)⟩
      · walk_at "rd"
        exact ⟨by show 1 ≤ sizeLine; decide, fun p hp => q _ p ((S1.trans S2).trans (same_new hp)) (ft_some (f := .ld (some i)) (if_neg (by simpa using c)) rfl upd_same)⟩
  | alike n m =>
    obtain ⟨b1, p1, e1, g1, c1, o1⟩ := get n (hn n (by simp [Cm.names]))
    obtain ⟨b2, p2, e2, g2, c2, o2⟩ := get m (hn m (by simp [Cm.names]))
    have hc : H a = some (.tup [.str "alike", .str (nmS n), .str (nmS m)]) := hc
    walk_at "rd"
    refine ⟨_, _, rfl, g1, ?_⟩
    walk_at "rd"
    refine ⟨_, _, rfl, g2, ?_⟩
    walk_at "rd"
    refine ⟨b1, b2, bd, p1, p2, lo, hi, rfl, c1, c2, o1, o2, hbd, hz, fun H1 v S1 hv => ?_⟩
    have ef : faultC t (moves lo hi) (.alike n m) = (parting p1 p2 (moves lo hi)).map .co := by
      show (getT t n).bind _ = _
      rw [e1]
      show (getT t m).bind _ = _
      rw [e2]
      rfl
    rw [ef] at q
    cases hl : parting p1 p2 (moves lo hi) with
    | none =>
      rw [hl] at q hv
      obtain rfl : v = .non := hv
      walk_at "rd"
      exact ⟨by show 0 ≤ sizeLine; decide, fun p hp => q _ p (S1.trans (same_new hp)) (ft_none rfl upd_same)⟩
    | some l =>
      rw [hl] at q hv
      obtain ⟨tp, rfl, htp⟩ := hv
      walk_at "rd"
      exact ⟨by show 1 ≤ sizeLine; decide, fun p hp => q _ p (S1.trans (same_new hp)) (ft_some (f := .co l) rfl ⟨tp, rfl, by rw [upd_ne (ne_of_none htp hp)]; exact htp⟩ upd_same)⟩
  | below n k =>
    obtain ⟨b1, p1, e1, g1, c1, o1⟩ := get n (hn n (by simp [Cm.names]))
    have hc : H a = some (.tup [.str "never below", .str (nmS n), .int k]) := hc
    walk_at "rd"
    refine ⟨_, _, rfl, g1, ?_⟩
    walk_at "rd"
    refine ⟨b1, bd, p1, lo, hi, rfl, c1, o1, hbd, hz, fun H1 S1 => ?_⟩
    have hc1 := S1 _ _ hc
    have ef : faultC t (moves lo hi) (.below n k) = ldF (lowest p1 (moves lo hi)) fun i => decide (-k ≤ i) := by
      show (getT t n).bind _ = _
      rw [e1]
      rfl
    rw [ef] at q
    cases hl : lowest p1 (moves lo hi) with
    | none =>
      rw [hl] at q
      walk_at "rd"
      exact ⟨by show 1 ≤ sizeLine; decide, fun p hp => q _ p (S1.trans (same_new hp)) (ft_some (f := .ld none) rfl rfl upd_same)⟩
    | some i =>
      rw [hl] at q
      walk_at "rd"
      refine ite_d (fun c => ?_) (fun c => ?_)
      · walk_at "rd"
        exact ⟨by show 0 ≤ sizeLine; decide, fun p hp => q _ p (S1.trans (same_new hp)) (ft_none (if_pos (decide_eq_true c)) upd_same)⟩
      · walk_at "rd"
        exact ⟨by show 1 ≤ sizeLine; decide, fun p hp => q _ p (S1.trans (same_new hp)) (ft_some (f := .ld (some i)) (if_neg (by simpa using c)) rfl upd_same)⟩
end
end K56
namespace K56
open PySem PySem.Spec PyProof.Rows L2
local macro_rules | `(tactic| walk_at "rd") => `(tactic| repeat (first | (refine ⟨_, rfl, ?_⟩) | (refine ⟨_, _, rfl, rfl, ?_⟩) | (refine ⟨rfl, ?_⟩) | (refine ⟨_, (by assumption : _ = some (HO.tup _)), ?_⟩) | (refine ⟨_, _, _, _, rfl, rfl, SqT.of (by assumption), rfl, ?_⟩) | (refine ⟨_, _, _, _, rfl, rfl, SqL.of (by assumption), rfl, ?_⟩) | (refine ⟨_, _, rfl, .inr (SqT.of (by assumption)), ?_⟩) | (refine ⟨_, _, rfl, .inl (SqL.of (by assumption)), ?_⟩) | (refine ⟨_, _, rfl, SqT.of (by assumption), rfl, ?_⟩) | (refine ⟨_, _, _, _, _, rfl, (by assumption : _ = some (HO.ins _ _ _)), Tx.cls (by assumption) _ (by decide +kernel), Tx.noat (by assumption) _ _ (by decide +kernel), rfl, ?_⟩) | (refine ⟨_, _, _, rfl, (by assumption : _ = some (HO.ins _ _ _)), _, _, rfl, (by assumption : ClAt _ _ _ _), ?_⟩) | (refine ⟨_, _, _, _, rfl, (by assumption : _ = some (HO.ins _ _ _)), Tx.cls (by assumption) _ (by decide +kernel), Tx.noat (by assumption) _ _ (by decide +kernel), Nat.le_of_ble_eq_true rfl, ?_⟩) | (refine ⟨_, _, rfl, SqT.of (by assumption), ?_⟩) | (refine ⟨_, _, rfl, SqL.of (by assumption), ?_⟩) | (refine ⟨_, _, rfl, ?_⟩) | (refine ⟨_, _, _, rfl, (by assumption : _ = some (HO.ins _ _ _)), ?_⟩) | (refine ⟨_, _, _, rfl, (by assumption : _ = some (HO.tup _)), ?_⟩) | (refine ⟨_, _, _, rfl, (by assumption : ClAt _ _ _ _), ?_⟩) | (refine ⟨_, _, _, _, _, rfl, (by assumption : ClAt _ _ _ _), (by assumption : _ = some (HO.tup _)), ?_⟩) | (refine ⟨.inl ⟨rfl, _, SqL.of (by assumption)⟩, ?_⟩) | (refine ⟨⟨_, SqL.of (by assumption)⟩, ?_⟩) | (refine ⟨⟨_, SqT.of (by assumption)⟩, ?_⟩) | (with_reducible refine ite_t ?kc ?kg; (case kc => simp; done)) | (with_reducible refine ite_f ?kc ?kg; (case kc => simp; done))))
local macro_rules | `(tactic| walk_at "sc") => `(tactic| exact ⟨rfl, rfl, rfl, by decide +kernel, rfl, by decide +kernel, by decide +kernel⟩)
def ptO (p : Pt) : List OI := [some p.every, some p.first, some p.rate, p.low, p.top, some p.keep, some p.plus]
theorem ptO_v (p : Pt) : ptV p = (ptO p).map ov := rfl
def partS : OI → Str
  | none => "none"
  | some i => toString i
def lineS (a b : Str) : Str := a ++ (" " : Str) ++ b
def linesS (p : Pt) : List Str := List.zipWith lineS wordsL ((ptO p).map partS)
def clS (p : Pt) : Str := Txt.join " " (linesS p)
theorem small_str : ∀ n : Nat, n < 41 → (toString ((n : Int) - 20) : Str).length ≤ 4 := by decide +kernel
theorem part_len {p : Pt} (ok : Ok p) : ∀ o ∈ ptO p, (partS o).length ≤ 4 ∧ ∀ i, o = some i → -20 ≤ i ∧ i ≤ 20 := by
  have key : ∀ o : OI, (∀ i, o = some i → -20 ≤ i ∧ i ≤ 20) → (partS o).length ≤ 4 ∧ ∀ i, o = some i → -20 ≤ i ∧ i ≤ 20 := fun o h => by
    refine ⟨?_, h⟩
    cases o with
    | none => decide +kernel
    | some i =>
      have h2 := h i rfl
      have := small_str (i + 20).toNat (by omega)
      rw [show (((i + 20).toNat : Nat) : Int) - 20 = i by omega] at this
      exact this
  obtain ⟨h1, h2, h3, h4, h5, h6, h7, h8, h9, h10, h11, h12⟩ := ok
  intro o ho
  refine key o fun i e => ?_
  subst e
  simp only [ptO, List.mem_cons, List.not_mem_nil, or_false, Option.some.injEq] at ho
  rcases ho with z | z | z | z | z | z | z
  · omega
  · omega
  · omega
  · exact h5 i z.symm
  · exact h6 i z.symm
  · omega
  · omega
theorem log_small {i : Int} (h : -20 ≤ i ∧ i ≤ 20) : i.natAbs.log2 < 1920 := by
  have key : ∀ n : Nat, n < 21 → n.log2 < 1920 := by decide
  exact key _ (by omega)
theorem lines_get (p : Pt) {i : Nat} {x y : Str} (h1 : wordsL[i]? = some x) (h2 : ((ptO p).map partS)[i]? = some y) : (linesS p)[i]? = some (lineS x y) := by
  unfold linesS
  rw [List.getElem?_zipWith, h1, h2]
theorem words_len : ∀ x ∈ wordsL, x.length ≤ 7 := by decide +kernel
theorem sum_le (n : Nat) : ∀ l : List Nat, (∀ x ∈ l, x ≤ n) → l.sum ≤ l.length * n
  | [], _ => by simp
  | a :: l, h => by
    have h1 := sum_le n l fun x hx => h x (List.mem_cons_of_mem _ hx)
    have h2 := h a (List.mem_cons_self ..)
    rw [List.sum_cons, List.length_cons, Nat.succ_mul]
    omega
theorem str_app (a b : Str) : (a ++ b).length = a.length + b.length := by
  show (a.cps ++ b.cps).size = _
  rw [Array.size_append]
  rfl
theorem lines_sum {p : Pt} (ok : Ok p) : ((linesS p).map (·.length)).sum ≤ 84 := by
  refine Nat.le_trans (sum_le 12 _ fun x hx => ?_) (show 7 * 12 ≤ 84 by decide)
  obtain ⟨s, hs, rfl⟩ := List.mem_map.mp hx
  obtain ⟨i, hi, rfl⟩ := List.mem_iff_getElem.mp hs
  unfold linesS at hi ⊢
  rw [List.getElem_zipWith]
  rw [List.length_zipWith] at hi
  have l1 := words_len _ (List.getElem_mem (l := wordsL) (by omega : i < wordsL.length))
  have l2 : (((ptO p).map partS)[i]'(by omega)).length ≤ 4 := by
    obtain ⟨o, ho, e⟩ := List.mem_map.mp (List.getElem_mem (l := (ptO p).map partS) (by omega : i < _))
    rw [← e]
    exact (part_len ok o ho).1
  show (_ ++ (" " : Str) ++ _ : Str).length ≤ 12
  rw [str_app, str_app, show (" " : Str).length = 1 by decide +kernel]
  omega
section
variable {w : World} {K : PySem.W.Frag} {mg : Str → Option Value} {base : Heap}
def sp_Clause_str (K : PySem.W.Frag) : Sp := fun vs H Q _ => ∃ (a : Addr) (p : Pt), vs = [.ref a] ∧ ClAt K H a p ∧ Ok p ∧ ∀ H', Same H H' → Q (.str (clS p)) H'
theorem sc_Clause_str : FnScope ["self", "part", "told", "word"] ["self"] (defScope s_Clause_str) := by walk_at "sc"
theorem ok_Clause_str (T : Tx w K mg) : Fn PG w K mg base 1 (me K "Clause" "__str__") (sp_Clause_str K) := by
  obtain ⟨fd, F⟩ := T.fn _ m_Clause_str
  refine fn_mk F (F.bindsN fun _ _ _ _ _ _ us hl => match us, hl with | [_], _ => rfl) sc_Clause_str (fun vs H Q E h => by obtain ⟨a, p, rfl, ⟨dx, t, hc, ht⟩, ok, q⟩ := h; rfl) ?_
  intro cdv A outer s H vs Q E hr h
  refine ⟨_, PSs.nox (pss_cons (ps_setLc (i := 2) (own := [("part", 1)]) (g := gName 1) rfl sc_Clause_str.nd rfl rfl (sw_true rfl rfl rfl (by decide +kernel)) (pi_tup (pe_fld (pv 0) rfl)) (blkOk_by (N := ["self", "part", "told", "word"]) (sc := defScope s_Clause_str) (by decide +kernel)) (fun _ _ _ _ _ => (pg_name (i := 1) sc_Clause_str.nd rfl (Or.inl rfl))) (fun _ _ _ _ _ => pts_nil) (fun _ _ _ _ _ => (pe_ifExp (pt_cmpR op_isN (pv 1) pe_non (nomark _)) pe_str (pe_callTy call_str_int rfl (T.f "str") (by decide +kernel) (pa_cons (pv 1) pa_nil)))))
    (pss_one (ps_ret (pe_join pe_str (pe_lc (own := [("word", 3), ("part", 1)]) (g := gTup K 2 (gCons (gName 3) (gCons (gName 1) gNil))) rfl sc_Clause_str.nd (pi_zipM rfl (T.f "zip") (pa_cons (pe_gR "WORDS" T) (pa_cons (pv 2) pa_nil))) (blkOk_by (N := ["self", "part", "told", "word"]) (sc := defScope s_Clause_str) (by decide +kernel)) (fun _ _ _ _ _ => (pg_tup rfl (pgs_cons (pg_name (i := 3) sc_Clause_str.nd rfl (Or.inl rfl)) (pgs_cons (pg_name (i := 1) sc_Clause_str.nd rfl (Or.inl rfl)) pgs_nil)))) (fun _ _ _ _ _ => pts_nil) (fun _ _ _ _ _ => (pe_op op_add_str (pe_op op_add_str (pv 3) pe_str) (pv 1)))))))), ?_⟩
  obtain ⟨a, p, rfl, ⟨dx, t, hc, ht⟩, ok, q⟩ := h
  walk_at "rd"
  have hlen : (ptV p).length = 7 := rfl
  refine fun D hD => lc_it (walk_tup (xs := ptV p)) (fun i H1 => Same H H1 ∧ H1 D = some (.lst ((((ptO p).map partS).take i).map V.str))) ⟨same_new hD, upd_same⟩ (fun _ _ _ h => SqT.of (h.1 _ _ ht)) (fun i x H1 H2 hi h hy => ?_) fun H1 h => ?_
  · obtain ⟨rfl, hx⟩ := hy
    obtain ⟨S, f⟩ := h
    have hi' : i < (ptO p).length := hi
    have hoi : (ptO p)[i]? = some (ptO p)[i] := List.getElem?_eq_getElem hi'
    rw [ptO_v, List.getElem?_map, hoi] at hx
    obtain rfl := Option.some.inj hx
    have hm := part_len ok _ (List.getElem_mem hi')
    have fin : ∀ s : Str, s = partS (ptO p)[i] → ∃ acc, H2 D = some (.lst acc) ∧ acc.length < sizeLine ∧ Same H (upd H2 D (.lst (acc ++ [.str s]))) ∧ upd H2 D (.lst (acc ++ [.str s])) D = some (.lst ((((ptO p).map partS).take (i + 1)).map V.str)) := fun s es => by
      refine ⟨_, f, ?_, fun b u e2 => ?_, ?_⟩
      · rw [List.length_map, List.length_take, sizeLine_eq]
        omega
      · rw [upd_ne (ne_of_none e2 hD)]
        exact S _ _ e2
      · rw [upd_same, List.take_add_one, List.getElem?_map, hoi, List.map_append, es]
        rfl
    generalize ((ptO p)[i] : OI) = o at hm fin
    cases o with
    | none =>
      walk_at "rd"
      exact fin _ rfl
    | some j =>
      walk_at "rd"
      refine ⟨log_small (hm.2 j rfl), ?_⟩
      exact fin _ rfl
  · obtain ⟨S, f⟩ := h
    rw [hlen, show (7 : Nat) = ((ptO p).map partS).length from rfl, List.take_length] at f
    obtain ⟨ow, its, nw, hw1, hw2, hw3, hw4, hw5⟩ := T.words
    have hW : ∀ H', SqT K H' (ga K "WORDS") (wordsL.map V.str) := fun H' => .inr ⟨ow, its, nw, hw1, hw2, hw3, hw4, hw5⟩
    walk_at "rd"
    refine ⟨⟨_, rfl⟩, _, rfl, _, _, wordsL.map V.str, _, rfl, hW _, SqL.of f, ?_⟩
    refine fun D2 hD2 => lc_it (walk_zipM (by rfl)) (fun i H2 => Same H1 H2 ∧ H2 D2 = some (.lst (((linesS p).take i).map V.str))) ⟨same_new hD2, upd_same⟩ (fun _ _ _ h => ⟨hW _, SqL.of (h.1 _ _ f)⟩) (fun i x H2 H3 hi h hy => ?_) fun H2 h => ?_
    · obtain ⟨S2, f2⟩ := h
      obtain ⟨Tt, xx, yy, rfl, hT, rfl, e5, e6⟩ := hy
      have hi7 : i < 7 := hi
      have h1 : wordsL[i]? = some (wordsL[i]'hi7) := List.getElem?_eq_getElem _
      have h2 : ((ptO p).map partS)[i]? = some (((ptO p).map partS)[i]'hi7) := List.getElem?_eq_getElem _
      have h3 := lines_get p h1 h2
      have l1 := words_len _ (List.getElem_mem (l := wordsL) hi7)
      have l2 : (((ptO p).map partS)[i]'hi7).length ≤ 4 := by
        have hm : (((ptO p).map partS)[i]'hi7) ∈ (ptO p).map partS := List.getElem_mem (l := (ptO p).map partS) hi7
        obtain ⟨o, ho, e⟩ := List.mem_map.mp hm
        rw [← e]
        exact (part_len ok o ho).1
      have e5' : (wordsL.map V.str)[i]? = some xx := e5
      have e6' : (((ptO p).map partS).map V.str)[i]? = some yy := e6
      rw [List.getElem?_map, h1] at e5'
      rw [List.getElem?_map, h2] at e6'
      obtain rfl := Option.some.inj e5'
      obtain rfl := Option.some.inj e6'
      generalize (wordsL[i]'hi7 : Str) = wd at h3 l1
      generalize (((ptO p).map partS)[i]'hi7 : Str) = pd at h3 l2
      have nDT : D2 ≠ Tt := ne_of_none f2 hT
      generalize e3 : upd H2 Tt _ = H3
      have S3 : Same H1 H3 := S2.trans (e3 ▸ same_new hT)
      have u3 : H3 Tt = some (.tup [.str wd, .str pd]) := e3 ▸ upd_same
      have f3 : H3 D2 = some (.lst (((linesS p).take i).map V.str)) := by rw [← e3, upd_ne nDT]; exact f2
      have lb : (" " : Str).length = 1 := by decide +kernel
      walk_at "rd"
      refine ⟨by rw [lb, sizeLine_eq]; omega, ?_⟩
      walk_at "rd"
      refine ⟨by rw [str_app, lb, sizeLine_eq]; omega, ?_⟩
      refine ⟨_, f3, ?_, fun b u e2 => ?_, ?_⟩
      · rw [List.length_map, List.length_take, sizeLine_eq]
        omega
      · rw [upd_ne (ne_of_none e2 hD2)]
        exact S3 _ _ e2
      · rw [upd_same, List.take_add_one, h3, List.map_append]
        rfl
    · obtain ⟨S2, f2⟩ := h
      have h7 : (wordsL.map V.str).length = (linesS p).length := rfl
      rw [h7, List.take_length] at f2
      walk_at "rd"
      refine ⟨_, _, linesS p, rfl, rfl, .inl (SqL.of f2), ?_, q H2 (S.trans S2)⟩
      have := lines_sum ok
      show _ + 7 * (" " : Str).length ≤ _
      rw [show (" " : Str).length = 1 by decide +kernel]
      omega
end
end K56
namespace K56
open PySem PySem.Spec PyProof.Rows L2
local macro_rules | `(tactic| walk_at "rd") => `(tactic| repeat (first | (refine ⟨_, rfl, ?_⟩) | (refine ⟨_, _, rfl, rfl, ?_⟩) | (refine ⟨rfl, ?_⟩) | (refine ⟨_, (by assumption : _ = some (HO.tup _)), ?_⟩) | (refine ⟨_, _, _, _, rfl, rfl, SqT.of (by assumption), rfl, ?_⟩) | (refine ⟨_, _, _, _, rfl, rfl, SqL.of (by assumption), rfl, ?_⟩) | (refine ⟨_, _, rfl, .inr (SqT.of (by assumption)), ?_⟩) | (refine ⟨_, _, rfl, .inl (SqL.of (by assumption)), ?_⟩) | (refine ⟨_, _, rfl, SqT.of (by assumption), rfl, ?_⟩) | (refine ⟨_, _, _, _, _, rfl, (by assumption : _ = some (HO.ins _ _ _)), Tx.cls (by assumption) _ (by decide +kernel), Tx.noat (by assumption) _ _ (by decide +kernel), rfl, ?_⟩) | (refine ⟨_, _, _, rfl, (by assumption : _ = some (HO.ins _ _ _)), _, _, rfl, (by assumption : ClAt _ _ _ _), ?_⟩) | (refine ⟨_, _, _, _, rfl, (by assumption : _ = some (HO.ins _ _ _)), Tx.cls (by assumption) _ (by decide +kernel), Tx.noat (by assumption) _ _ (by decide +kernel), Nat.le_of_ble_eq_true rfl, ?_⟩) | (refine ⟨_, _, rfl, SqT.of (by assumption), ?_⟩) | (refine ⟨_, _, rfl, SqL.of (by assumption), ?_⟩) | (refine ⟨_, _, rfl, ?_⟩) | (refine ⟨_, _, _, rfl, (by assumption : _ = some (HO.ins _ _ _)), ?_⟩) | (refine ⟨_, _, _, rfl, (by assumption : _ = some (HO.tup _)), ?_⟩) | (refine ⟨_, _, _, rfl, (by assumption : ClAt _ _ _ _), ?_⟩) | (refine ⟨_, _, _, _, _, rfl, (by assumption : ClAt _ _ _ _), (by assumption : _ = some (HO.tup _)), ?_⟩) | (refine ⟨.inl ⟨rfl, _, SqL.of (by assumption)⟩, ?_⟩) | (refine ⟨⟨_, SqL.of (by assumption)⟩, ?_⟩) | (refine ⟨⟨_, SqT.of (by assumption)⟩, ?_⟩) | (with_reducible refine ite_t ?kc ?kg; (case kc => simp; done)) | (with_reducible refine ite_f ?kc ?kg; (case kc => simp; done))))
local macro_rules | `(tactic| walk_at "sc") => `(tactic| exact ⟨rfl, rfl, rfl, by decide +kernel, rfl, by decide +kernel, by decide +kernel⟩)
/-- all but what stands at m stays -/
def Fr (m : Addr) (H H' : Hp) : Prop := ∀ b o, b ≠ m → H b = some o → H' b = some o
theorem Fr.of {m : Addr} {H H' : Hp} (S : Same H H') : Fr m H H' := fun b o _ e => S b o e
theorem Fr.trans {m : Addr} {H H' H'' : Hp} (a : Fr m H H') (b : Fr m H' H'') : Fr m H H'' := fun c o n e => b c o n (a c o n e)
theorem Fr.upd {m : Addr} {H : Hp} {o : HO} : Fr m H (upd H m o) := fun b u n e => by rw [upd_ne n]; exact e
theorem Fr.dl {m : Addr} {M : List Addr} {H H' : Hp} (hm : m ∈ M) (f : Fr m H H') : Same (dl M H) (dl M H') := fun b o e => by
  unfold K56.dl at e ⊢
  by_cases hb : b ∈ M
  · rw [if_pos hb] at e; cases e
  · rw [if_neg hb] at e ⊢
    exact f b o (fun z => hb (z ▸ hm)) e
def Lv (M : List Addr) (H : Hp) : Prop := ∀ m ∈ M, ∃ o, H m = some o
theorem Lv.out {M : List Addr} {H : Hp} (h : Lv M H) {p : Addr} (hp : H p = none) : p ∉ M := fun z => by
  obtain ⟨o, e⟩ := h p z
  rw [hp] at e
  cases e
theorem Lv.same {M : List Addr} {H H' : Hp} (h : Lv M H) (S : Same H H') : Lv M H' := fun m hm => by
  obtain ⟨o, e⟩ := h m hm
  exact ⟨o, S _ _ e⟩
theorem Lv.upd {M : List Addr} {H : Hp} (h : Lv M H) {m : Addr} {o : HO} : Lv M (upd H m o) := fun b hb => by
  by_cases e : b = m
  · exact ⟨o, by rw [e]; exact upd_same⟩
  · obtain ⟨u, hu⟩ := h b hb
    exact ⟨u, by rw [upd_ne e]; exact hu⟩
/-- a new thing stands outside M -/
theorem dl_at {M : List Addr} {H : Hp} {p : Addr} {o : HO} (hp : p ∉ M) (e : H p = some o) : dl M H p = some o := by rw [dl_out hp]; exact e
/-- claims -/
def CsV (H : Hp) (cs : Cs) : Prop := ∀ p ∈ cs, CmAt H p.1 p.2 ∧ p.2.ok
def csR (cs : Cs) : List V := cs.map fun p => .ref p.1
theorem CsV.mono {H H' : Hp} (e : Same H H') {cs : Cs} (h : CsV H cs) : CsV H' cs := fun p hp => ⟨e _ _ (h p hp).1, (h p hp).2⟩
def TdAt (K : PySem.W.Frag) (G : Hp) (td : Addr) (t : Tb) : Prop := G td = some (.dK (tbK t)) ∧ TbV K G t
def TcAt (G : Hp) (tc : Addr) (cs : Cs) : Prop := G tc = some (.tup (csR cs)) ∧ CsV G cs
theorem TdAt.mono {K : PySem.W.Frag} {G G' : Hp} (e : Same G G') {td : Addr} {t : Tb} (h : TdAt K G td t) : TdAt K G' td t := ⟨e _ _ h.1, h.2.mono e⟩
theorem TcAt.mono {G G' : Hp} (e : Same G G') {td : Addr} {t : Cs} (h : TcAt G td t) : TcAt G' td t := ⟨e _ _ h.1, h.2.mono e⟩
/-- one standing of the desk, a pair -/
def EnAt (K : PySem.W.Frag) (G : Hp) (v : V) (e : Tb × Cs) : Prop := ∃ n td tc, v = .ref n ∧ G n = some (.tup [.ref td, .ref tc]) ∧ TdAt K G td e.1 ∧ TcAt G tc e.2
theorem EnAt.mono {K : PySem.W.Frag} {G G' : Hp} (e : Same G G') {v : V} {x : Tb × Cs} (h : EnAt K G v x) : EnAt K G' v x := by
  obtain ⟨n, td, tc, h1, h2, h3, h4⟩ := h
  exact ⟨n, td, tc, h1, e _ _ h2, h3.mono e, h4.mono e⟩
abbrev dkF (bd s : Addr) : List (Str × V) := [("span", .ref bd), ("state", .ref s)]
/-- the desk at dk; what it reaches stands in G -/
def DkAt (K : PySem.W.Frag) (G H : Hp) (dk bd : Addr) (st : Sta) : Prop := ∃ dx s n td tc p pvs, H dk = some (.ins (ga K "Desk") dx (dkF bd s)) ∧ G s = some (.tup [.ref n, .ref p]) ∧
  G n = some (.tup [.ref td, .ref tc]) ∧ TdAt K G td st.tb ∧ TcAt G tc st.cs ∧ G p = some (.tup pvs) ∧ Paired (EnAt K G) pvs st.past
theorem DkAt.same {K : PySem.W.Frag} {M : List Addr} {H H' : Hp} (S : Same H H') {dk bd : Addr} {st : Sta} (h : DkAt K (dl M H) H dk bd st) : DkAt K (dl M H') H' dk bd st := by
  obtain ⟨dx, s, n, td, tc, p, pvs, h1, h2, h3, h4, h5, h6, h7⟩ := h
  have e : Same (dl M H) (dl M H') := K56.Same.dl S
  exact ⟨dx, s, n, td, tc, p, pvs, S _ _ h1, e _ _ h2, e _ _ h3, h4.mono e, h5.mono e, e _ _ h6, K56.Paired.imp (fun _ _ z => EnAt.mono e z) h7⟩
/-- another mutable thing changes -/
theorem DkAt.fr {K : PySem.W.Frag} {M : List Addr} {H H' : Hp} {m : Addr} (hm : m ∈ M) (f : Fr m H H') {dk bd : Addr} (hd : dk ≠ m) {st : Sta} (h : DkAt K (dl M H) H dk bd st) : DkAt K (dl M H') H' dk bd st := by
  obtain ⟨dx, s, n, td, tc, p, pvs, h1, h2, h3, h4, h5, h6, h7⟩ := h
  have e : Same (dl M H) (dl M H') := f.dl hm
  exact ⟨dx, s, n, td, tc, p, pvs, f _ _ hd h1, e _ _ h2, e _ _ h3, h4.mono e, h5.mono e, e _ _ h6, K56.Paired.imp (fun _ _ z => EnAt.mono e z) h7⟩
section
variable {w : World} {K : PySem.W.Frag} {mg : Str → Option Value} {base : Heap}
def sp_Desk_init (K : PySem.W.Frag) : Sp := fun vs H Q _ => ∃ (dk bd dx : Addr) (lo hi : Int), vs = [.ref dk, .ref bd] ∧ H dk = some (.ins (ga K "Desk") dx []) ∧ BdAt H bd lo hi ∧ (-3 ≤ lo ∧ lo ≤ hi ∧ hi ≤ 3) ∧
  ∀ H', Fr dk H H' → DkAt K (dl [dk] H') H' dk bd ⟨[], [], []⟩ → Q .non H'
theorem sc_Desk_init : FnScope ["self", "band"] ["self", "band"] (defScope s_Desk_init) := by walk_at "sc"
theorem ok_Desk_init (T : Tx w K mg) : Fn PG w K mg base 5 (me K "Desk" "__init__") (sp_Desk_init K) := by
  obtain ⟨fd, F⟩ := T.fn _ m_Desk_init
  refine fn_mk F (F.bindsN fun _ _ _ _ _ _ us hl => match us, hl with | [_, _], _ => rfl) sc_Desk_init (fun vs H Q E h => by obtain ⟨dk, bd, dx, lo, hi, rfl, hk, hbd, hz, q⟩ := h; rfl) ?_
  intro cdv A outer s H vs Q E hr h
  refine ⟨_, PSs.nox (pss_cons (ps_expr (pe_cl (ok_check_band T) (hr.mono (by decide)) (T.g "check_band") (T.kp _ m_check_band) (fun _ => pas0) (pa_cons (pv 1) pa_nil)))
    (pss_cons (ps_fld (pv 0) (pv 1) rfl)
    (pss_one (ps_fld (pv 0) (pe_tup (pa_cons (pe_tup (pa_cons pe_dnewK (pa_cons (pe_tup pa_nil) pa_nil))) (pa_cons (pe_tup pa_nil) pa_nil))) rfl)))), ?_⟩
  obtain ⟨dk, bd, dx, lo, hi, rfl, hk, hbd, hz, q⟩ := h
  walk_at "rd"
  refine ⟨hz, ?_⟩
  walk_at "rd"
  generalize e0 : upd H dk _ = H0
  have u0 : H0 dk = some (.ins (ga K "Desk") dx [("span", .ref bd)]) := e0 ▸ upd_same
  have f0 : Fr dk H H0 := e0 ▸ Fr.upd
  walk_at "rd"
  refine fun td htd => ?_
  generalize e1 : upd H0 td _ = H1
  have S1 : Same H0 H1 := e1 ▸ same_new htd
  have v1 : H1 td = some (.dK []) := e1 ▸ upd_same
  have u1 := S1 _ _ u0
  walk_at "rd"
  refine ⟨by show 0 ≤ sizeLine; decide, fun tc htc => ?_⟩
  generalize e2 : upd H1 tc _ = H2
  have S2 : Same H1 H2 := e2 ▸ same_new htc
  have v2 : H2 tc = some (.tup []) := e2 ▸ upd_same
  have u2 := S2 _ _ u1
  walk_at "rd"
  refine ⟨by show 2 ≤ sizeLine; decide, fun n hn => ?_⟩
  generalize e3 : upd H2 n _ = H3
  have S3 : Same H2 H3 := e3 ▸ same_new hn
  have v3 : H3 n = some (.tup [.ref td, .ref tc]) := e3 ▸ upd_same
  have u3 := S3 _ _ u2
  walk_at "rd"
  refine ⟨by show 0 ≤ sizeLine; decide, fun p hp => ?_⟩
  generalize e4 : upd H3 p _ = H4
  have S4 : Same H3 H4 := e4 ▸ same_new hp
  have v4 : H4 p = some (.tup []) := e4 ▸ upd_same
  have u4 := S4 _ _ u3
  walk_at "rd"
  refine ⟨by show 2 ≤ sizeLine; decide, fun s hs => ?_⟩
  generalize e5 : upd H4 s _ = H5
  have S5 : Same H4 H5 := e5 ▸ same_new hs
  have v5 : H5 s = some (.tup [.ref n, .ref p]) := e5 ▸ upd_same
  have u5 := S5 _ _ u4
  walk_at "rd"
  have z4 := S5 _ _ v4
  have z3 := S5 _ _ (S4 _ _ v3)
  have z2 := S5 _ _ (S4 _ _ (S3 _ _ v2))
  have z1 := S5 _ _ (S4 _ _ (S3 _ _ (S2 _ _ v1)))
  have at6 : ∀ {b : Addr} {u o : HO}, H5 b = some u → H5 dk = some o → u ≠ o → dl [dk] (upd H5 dk (.ins (ga K "Desk") dx (dkF bd s))) b = some u := fun {b u o} h1 h2 d => by
    have n : b ≠ dk := ne_of h1 h2 d
    rw [dl_upd_in (by simp), dl_out (by simpa using n)]
    exact h1
  refine q _ ((f0.trans (Fr.of ((((S1.trans S2).trans S3).trans S4).trans S5))).trans Fr.upd) ⟨dx, s, n, td, tc, p, [], upd_same, at6 v5 u5 (by simp), at6 z3 u5 (by simp), ⟨at6 z1 u5 (by simp), fun _ h => by cases h⟩, ⟨at6 z2 u5 (by simp), fun _ h => by cases h⟩, at6 z4 u5 (by simp), .nil⟩
def sp_Desk_band (K : PySem.W.Frag) : Sp := fun vs H Q _ => ∃ (M : List Addr) (dk bd : Addr) (st : Sta), vs = [.ref dk] ∧ DkAt K (dl M H) H dk bd st ∧ Q (.ref bd) H
theorem sc_Desk_band : FnScope ["self"] ["self"] (defScope s_Desk_band) := by walk_at "sc"
theorem ok_Desk_band (T : Tx w K mg) : Fn PG w K mg base 1 (pgA K "Desk" "band") (sp_Desk_band K) := by
  obtain ⟨fd, F⟩ := T.gt _ mg_Desk_band
  refine fn_mk F (F.bindsN fun _ _ _ _ _ _ us hl => match us, hl with | [_], _ => rfl) sc_Desk_band (fun vs H Q E h => by obtain ⟨M, dk, bd, st, rfl, ⟨dx, s, n, td, tc, p, pvs, h1, h2, h3, h4, h5, h6, h7⟩, q⟩ := h; rfl) ?_
  intro cdv A outer s H vs Q E hr h
  refine ⟨_, PSs.nox (pss_one (ps_ret (pe_fld (pv 0) rfl))), ?_⟩
  obtain ⟨M, dk, bd, st, rfl, ⟨dx, s, n, td, tc, p, pvs, h1, h2, h3, h4, h5, h6, h7⟩, q⟩ := h
  walk_at "rd"
  exact q
/-- the desk's own things, told of the whole heap -/
structure DkH (K : PySem.W.Frag) (H : Hp) (dk dx bd s n p td tc : Addr) (t : Tb) (cs : Cs) (pvs : List V) : Prop where
  hk : H dk = some (.ins (ga K "Desk") dx (dkF bd s))
  hs : H s = some (.tup [.ref n, .ref p])
  hn : H n = some (.tup [.ref td, .ref tc])
  ht : H td = some (.dK (tbK t))
  hc : H tc = some (.tup (csR cs))
  hp : H p = some (.tup pvs)
theorem DkAt.h {M : List Addr} {H : Hp} {dk bd : Addr} {st : Sta} (h : DkAt K (dl M H) H dk bd st) : ∃ dx s n p td tc pvs, DkH K H dk dx bd s n p td tc st.tb st.cs pvs ∧ pvs.length = st.past.length := by
  obtain ⟨dx, s, n, td, tc, p, pvs, h1, h2, h3, h4, h5, h6, h7⟩ := h
  exact ⟨dx, s, n, p, td, tc, pvs, ⟨h1, dl_le _ _ h2, dl_le _ _ h3, dl_le _ _ h4.1, dl_le _ _ h5.1, dl_le _ _ h6⟩, Paired.length h7⟩
theorem DkH.mono {H H' : Hp} (e : Same H H') {dk dx bd s n p td tc : Addr} {t : Tb} {cs : Cs} {pvs : List V} (h : DkH K H dk dx bd s n p td tc t cs pvs) : DkH K H' dk dx bd s n p td tc t cs pvs := ⟨e _ _ h.hk, e _ _ h.hs, e _ _ h.hn, e _ _ h.ht, e _ _ h.hc, e _ _ h.hp⟩
def DkS (K : PySem.W.Frag) (H : Hp) (dk dx bd s n p td tc : Addr) : Prop := H dk = some (.ins (ga K "Desk") dx (dkF bd s)) ∧ H s = some (.tup [.ref n, .ref p]) ∧ H n = some (.tup [.ref td, .ref tc])
def sp_Desk_table (K : PySem.W.Frag) : Sp := fun vs H Q _ => ∃ (dk dx bd s n p td tc : Addr), vs = [.ref dk] ∧ DkS K H dk dx bd s n p td tc ∧ Q (.ref td) H
theorem sc_Desk_table : FnScope ["self"] ["self"] (defScope s_Desk_table) := by walk_at "sc"
theorem ok_Desk_table (T : Tx w K mg) : Fn PG w K mg base 1 (pgA K "Desk" "table") (sp_Desk_table K) := by
  obtain ⟨fd, F⟩ := T.gt _ mg_Desk_table
  refine fn_mk F (F.bindsN fun _ _ _ _ _ _ us hl => match us, hl with | [_], _ => rfl) sc_Desk_table (fun vs H Q E h => by obtain ⟨dk, dx, bd, s, n, p, td, tc, rfl, ⟨h1, h2, h3⟩, q⟩ := h; rfl) ?_
  intro cdv A outer s H vs Q E hr h
  refine ⟨_, PSs.nox (pss_one (ps_ret (pe_ix ix_tup (pe_ix ix_tup (pe_fld (pv 0) rfl) pe_int (fun _ _ => rfl)) pe_int (fun _ _ => rfl)))), ?_⟩
  obtain ⟨dk, dx, bd, s, n, p, td, tc, rfl, ⟨h1, h2, h3⟩, q⟩ := h
  walk_at "rd"
  exact q
def sp_Desk_claims (K : PySem.W.Frag) : Sp := fun vs H Q _ => ∃ (dk dx bd s n p td tc : Addr), vs = [.ref dk] ∧ DkS K H dk dx bd s n p td tc ∧ Q (.ref tc) H
theorem sc_Desk_claims : FnScope ["self"] ["self"] (defScope s_Desk_claims) := by walk_at "sc"
theorem ok_Desk_claims (T : Tx w K mg) : Fn PG w K mg base 1 (pgA K "Desk" "claims") (sp_Desk_claims K) := by
  obtain ⟨fd, F⟩ := T.gt _ mg_Desk_claims
  refine fn_mk F (F.bindsN fun _ _ _ _ _ _ us hl => match us, hl with | [_], _ => rfl) sc_Desk_claims (fun vs H Q E h => by obtain ⟨dk, dx, bd, s, n, p, td, tc, rfl, ⟨h1, h2, h3⟩, q⟩ := h; rfl) ?_
  intro cdv A outer s H vs Q E hr h
  refine ⟨_, PSs.nox (pss_one (ps_ret (pe_ix ix_tup (pe_ix ix_tup (pe_fld (pv 0) rfl) pe_int (fun _ _ => rfl)) pe_int (fun _ _ => rfl)))), ?_⟩
  obtain ⟨dk, dx, bd, s, n, p, td, tc, rfl, ⟨h1, h2, h3⟩, q⟩ := h
  walk_at "rd"
  exact q
def sp_Desk_changes (K : PySem.W.Frag) : Sp := fun vs H Q _ => ∃ (dk dx bd s n p td tc : Addr) (pvs : List V), vs = [.ref dk] ∧ DkS K H dk dx bd s n p td tc ∧ H p = some (.tup pvs) ∧ Q (.int pvs.length) H
theorem sc_Desk_changes : FnScope ["self"] ["self"] (defScope s_Desk_changes) := by walk_at "sc"
theorem ok_Desk_changes (T : Tx w K mg) : Fn PG w K mg base 1 (pgA K "Desk" "changes") (sp_Desk_changes K) := by
  obtain ⟨fd, F⟩ := T.gt _ mg_Desk_changes
  refine fn_mk F (F.bindsN fun _ _ _ _ _ _ us hl => match us, hl with | [_], _ => rfl) sc_Desk_changes (fun vs H Q E h => by obtain ⟨dk, dx, bd, s, n, p, td, tc, pvs, rfl, ⟨h1, h2, h3⟩, hp, q⟩ := h; rfl) ?_
  intro cdv A outer s H vs Q E hr h
  refine ⟨_, PSs.nox (pss_one (ps_ret (pe_callB call_len_seq rfl (T.f "len") (by decide +kernel) (pa_cons (pe_ix ix_tup (pe_fld (pv 0) rfl) pe_int (fun _ _ => rfl)) pa_nil)))), ?_⟩
  obtain ⟨dk, dx, bd, s, n, p, td, tc, pvs, rfl, ⟨h1, h2, h3⟩, hp, q⟩ := h
  walk_at "rd"
  exact q
def sp_Desk_len (K : PySem.W.Frag) : Sp := fun vs H Q _ => ∃ (dk dx bd s n p td tc : Addr) (kvs : List (Key × V)), vs = [.ref dk] ∧ DkS K H dk dx bd s n p td tc ∧ H td = some (.dK kvs) ∧ Q (.int kvs.length) H
theorem sc_Desk_len : FnScope ["self"] ["self"] (defScope s_Desk_len) := by walk_at "sc"
theorem ok_Desk_len (T : Tx w K mg) : Fn PG w K mg base 3 (me K "Desk" "__len__") (sp_Desk_len K) := by
  obtain ⟨fd, F⟩ := T.fn _ m_Desk_len
  refine fn_mk F (F.bindsN fun _ _ _ _ _ _ us hl => match us, hl with | [_], _ => rfl) sc_Desk_len (fun vs H Q E h => by obtain ⟨dk, dx, bd, s, n, p, td, tc, kvs, rfl, hS, ht, q⟩ := h; rfl) ?_
  intro cdv A outer s H vs Q E hr h
  refine ⟨_, PSs.nox (pss_one (ps_ret (pe_callB call_lenD rfl (T.f "len") (by decide +kernel) (pa_cons (pe_pr (pv 0) (T.cls "Desk" (by decide +kernel)) (T.pr _ mg_Desk_table) (ok_Desk_table T) (hr.mono (by decide))) pa_nil)))), ?_⟩
  obtain ⟨dk, dx, bd, s, n, p, td, tc, kvs, rfl, hS, ht, q⟩ := h
  have h1 := hS.1
  walk_at "rd"
  refine ⟨dk, dx, bd, s, n, p, td, tc, rfl, hS, ?_⟩
  walk_at "rd"
  exact ⟨_, _, rfl, ht, q⟩
def sp_Desk_bool : Sp := fun vs H Q _ => ∃ (dk : Addr), vs = [.ref dk] ∧ Q (.bl true) H
theorem sc_Desk_bool : FnScope ["self"] ["self"] (defScope s_Desk_bool) := by walk_at "sc"
theorem ok_Desk_bool (T : Tx w K mg) : Fn PG w K mg base 1 (me K "Desk" "__bool__") sp_Desk_bool := by
  obtain ⟨fd, F⟩ := T.fn _ m_Desk_bool
  refine fn_mk F (F.bindsN fun _ _ _ _ _ _ us hl => match us, hl with | [_], _ => rfl) sc_Desk_bool (fun vs H Q E h => by obtain ⟨dk, rfl, q⟩ := h; rfl) ?_
  intro cdv A outer s H vs Q E hr h
  refine ⟨_, PSs.nox (pss_one (ps_ret pe_bl)), ?_⟩
  obtain ⟨dk, rfl, q⟩ := h
  walk_at "rd"
  exact q
def sp_Desk_contains (K : PySem.W.Frag) : Sp := fun vs H Q _ => ∃ (dk dx bd s n p td tc : Addr) (t : Tb) (nm : Nm), vs = [.ref dk, .str (nmS nm)] ∧ DkS K H dk dx bd s n p td tc ∧ Rd H td (.dK (tbK t)) ∧ Q (.bl (hasT t nm)) H
theorem sc_Desk_contains : FnScope ["self", "value"] ["self", "value"] (defScope s_Desk_contains) := by walk_at "sc"
theorem ok_Desk_contains (T : Tx w K mg) : Fn PG w K mg base 3 (me K "Desk" "__contains__") (sp_Desk_contains K) := by
  obtain ⟨fd, F⟩ := T.fn _ m_Desk_contains
  refine fn_mk F (F.bindsN fun _ _ _ _ _ _ us hl => match us, hl with | [_, _], _ => rfl) sc_Desk_contains (fun vs H Q E h => by obtain ⟨dk, dx, bd, s, n, p, td, tc, t, nm, rfl, hS, ht, q⟩ := h; rfl) ?_
  intro cdv A outer s H vs Q E hr h
  refine ⟨_, PSs.nox (pss_one (ps_ret (pe_cl (ok_is_under T) (hr.mono (by decide)) (T.g "is_under") (T.kp _ m_is_under) (fun _ => pas0) (pa_cons (pe_pr (pv 0) (T.cls "Desk" (by decide +kernel)) (T.pr _ mg_Desk_table) (ok_Desk_table T) (hr.mono (by decide))) (pa_cons (pv 1) pa_nil))))), ?_⟩
  obtain ⟨dk, dx, bd, s, n, p, td, tc, t, nm, rfl, hS, ht, q⟩ := h
  have h1 := hS.1
  walk_at "rd"
  refine ⟨dk, dx, bd, s, n, p, td, tc, rfl, hS, ?_⟩
  walk_at "rd"
  refine ⟨_, _, _, rfl, ht, ?_⟩
  exact q
def sp_Desk_getitem (K : PySem.W.Frag) : Sp := fun vs H Q _ => ∃ (dk dx bd s n p td tc : Addr) (t : Tb) (nm : Nm) (b : Addr) (c : Pt), vs = [.ref dk, .str (nmS nm)] ∧ DkS K H dk dx bd s n p td tc ∧ Rd H td (.dK (tbK t)) ∧ getT t nm = some (b, c) ∧ Q (.ref b) H
theorem sc_Desk_getitem : FnScope ["self", "name"] ["self", "name"] (defScope s_Desk_getitem) := by walk_at "sc"
theorem ok_Desk_getitem (T : Tx w K mg) : Fn PG w K mg base 3 (me K "Desk" "__getitem__") (sp_Desk_getitem K) := by
  obtain ⟨fd, F⟩ := T.fn _ m_Desk_getitem
  refine fn_mk F (F.bindsN fun _ _ _ _ _ _ us hl => match us, hl with | [_, _], _ => rfl) sc_Desk_getitem (fun vs H Q E h => by obtain ⟨dk, dx, bd, s, n, p, td, tc, t, nm, b, c, rfl, hS, ht, hg, q⟩ := h; rfl) ?_
  intro cdv A outer s H vs Q E hr h
  refine ⟨_, (pss_cons (ps_if (pt_not (pt_val (pe_cl (ok_is_under T) (hr.mono (by decide)) (T.g "is_under") (T.kp _ m_is_under) (fun _ => pas0) (pa_cons (pe_pr (pv 0) (T.cls "Desk" (by decide +kernel)) (T.pr _ mg_Desk_table) (ok_Desk_table T) (hr.mono (by decide))) (pa_cons (pv 1) pa_nil))))) (pss_one (ps_raise rfl (takes_of rfl rfl rfl rfl) (pmk_x1 T.x1 hr (pa_cons (pv 1) pa_nil) rfl))) pss_nil)
    (pss_one (ps_ret (pe_dget (hu_le hr) (pe_pr (pv 0) (T.cls "Desk" (by decide +kernel)) (T.pr _ mg_Desk_table) (ok_Desk_table T) (hr.mono (by decide))) (pv 1) (fun _ _ => rfl))))), ?_⟩
  obtain ⟨dk, dx, bd, s, n, p, td, tc, t, nm, b, c, rfl, hS, ht, hg, q⟩ := h
  have h1 := hS.1
  walk_at "rd"
  refine ⟨dk, dx, bd, s, n, p, td, tc, rfl, hS, ?_⟩
  walk_at "rd"
  refine ⟨_, _, _, rfl, ht, ?_⟩
  rw [show hasT t nm = true by unfold hasT; rw [hg]; rfl]
  walk_at "rd"
  refine ⟨dk, dx, bd, s, n, p, td, tc, rfl, hS, ?_⟩
  have g1 := dget_tb ht nm
  rw [hg] at g1
  walk_at "rd"
  exact ⟨_, _, rfl, g1, q⟩
end
end K56
namespace K56
open PySem PySem.Spec PyProof.Rows L2
local macro_rules | `(tactic| walk_at "rd") => `(tactic| repeat (first | (refine ⟨_, rfl, ?_⟩) | (refine ⟨_, _, rfl, rfl, ?_⟩) | (refine ⟨rfl, ?_⟩) | (refine ⟨_, (by assumption : _ = some (HO.tup _)), ?_⟩) | (refine ⟨_, _, _, _, rfl, rfl, SqT.of (by assumption), rfl, ?_⟩) | (refine ⟨_, _, _, _, rfl, rfl, SqL.of (by assumption), rfl, ?_⟩) | (refine ⟨_, _, rfl, .inr (SqT.of (by assumption)), ?_⟩) | (refine ⟨_, _, rfl, .inl (SqL.of (by assumption)), ?_⟩) | (refine ⟨_, _, rfl, SqT.of (by assumption), rfl, ?_⟩) | (refine ⟨_, _, _, _, _, rfl, (by assumption : _ = some (HO.ins _ _ _)), Tx.cls (by assumption) _ (by decide +kernel), Tx.noat (by assumption) _ _ (by decide +kernel), rfl, ?_⟩) | (refine ⟨_, _, _, rfl, (by assumption : _ = some (HO.ins _ _ _)), _, _, rfl, (by assumption : ClAt _ _ _ _), ?_⟩) | (refine ⟨_, _, _, _, rfl, (by assumption : _ = some (HO.ins _ _ _)), Tx.cls (by assumption) _ (by decide +kernel), Tx.noat (by assumption) _ _ (by decide +kernel), Nat.le_of_ble_eq_true rfl, ?_⟩) | (refine ⟨_, _, rfl, SqT.of (by assumption), ?_⟩) | (refine ⟨_, _, rfl, SqL.of (by assumption), ?_⟩) | (refine ⟨_, _, rfl, ?_⟩) | (refine ⟨_, _, _, rfl, (by assumption : _ = some (HO.ins _ _ _)), ?_⟩) | (refine ⟨_, _, _, rfl, (by assumption : _ = some (HO.tup _)), ?_⟩) | (refine ⟨_, _, _, rfl, (by assumption : ClAt _ _ _ _), ?_⟩) | (refine ⟨_, _, _, _, _, rfl, (by assumption : ClAt _ _ _ _), (by assumption : _ = some (HO.tup _)), ?_⟩) | (refine ⟨.inl ⟨rfl, _, SqL.of (by assumption)⟩, ?_⟩) | (refine ⟨⟨_, SqL.of (by assumption)⟩, ?_⟩) | (refine ⟨⟨_, SqT.of (by assumption)⟩, ?_⟩) | (with_reducible refine ite_t ?kc ?kg; (case kc => simp; done)) | (with_reducible refine ite_f ?kc ?kg; (case kc => simp; done))))
local macro_rules | `(tactic| walk_at "sc") => `(tactic| exact ⟨rfl, rfl, rfl, by decide +kernel, rfl, by decide +kernel, by decide +kernel⟩)
section
variable {w : World} {K : PySem.W.Frag} {mg : Str → Option Value} {base : Heap}
theorem Paired.snoc {α β : Type} {R : α → β → Prop} : ∀ {l : List α} {m : List β} {a : α} {b : β}, Paired R l m → R a b → Paired R (l ++ [a]) (m ++ [b])
  | _, _, _, _, .nil, h => .cons h .nil
  | _, _, _, _, .cons h t, h2 => .cons h (Paired.snoc t h2)
def sp_Desk_become (K : PySem.W.Frag) : Sp := fun vs H Q _ => ∃ (M : List Addr) (dk bd : Addr) (st : Sta) (t : Tb) (cs : Cs) (td tc : Addr), vs = [.ref dk, .ref td, .ref tc] ∧ dk ∈ M ∧ Lv M H ∧ DkAt K (dl M H) H dk bd st ∧ TdAt K (dl M H) td t ∧ TcAt (dl M H) tc cs ∧
  st.past.length ≤ 100 ∧ ∀ H', Fr dk H H' → DkAt K (dl M H') H' dk bd ⟨t, cs, st.push⟩ → Q .non H'
theorem sc_Desk_become : FnScope ["self", "table", "claims"] ["self", "table", "claims"] (defScope s_Desk_become) := by walk_at "sc"
theorem ok_Desk_become (T : Tx w K mg) : Fn PG w K mg base 1 (me K "Desk" "become") (sp_Desk_become K) := by
  obtain ⟨fd, F⟩ := T.fn _ m_Desk_become
  refine fn_mk F (F.bindsN fun _ _ _ _ _ _ us hl => match us, hl with | [_, _, _], _ => rfl) sc_Desk_become (fun vs H Q E h => by obtain ⟨M, dk, bd, st, t, cs, td, tc, rfl, hM, hL, hD, hT, hC, hlen, q⟩ := h; rfl) ?_
  intro cdv A outer s H vs Q E hr h
  refine ⟨_, PSs.nox (pss_one (ps_fld (pv 0) (pe_tup (pa_cons (pe_tup (pa_cons (pv 1) (pa_cons (pv 2) pa_nil))) (pa_cons (pe_tup (StX.pa_star (pe_ix ix_tup (pe_fld (pv 0) rfl) pe_int (fun _ _ => rfl)) (pa_cons (pe_ix ix_tup (pe_fld (pv 0) rfl) pe_int (fun _ _ => rfl)) pa_nil))) pa_nil))) rfl)), ?_⟩
  obtain ⟨M, dk, bd, st, t, cs, td, tc, rfl, hM, hL, hD, hT, hC, hlen, q⟩ := h
  obtain ⟨dx, s, n, td0, tc0, p, pvs, h1, h2, h3, h4, h5, h6, h7⟩ := hD
  have hpl : pvs.length = st.past.length := Paired.length h7
  walk_at "rd"
  refine ⟨by show 2 ≤ sizeLine; decide, fun n1 hn1 => ?_⟩
  generalize e1 : upd H n1 _ = H1
  have S1 : Same H H1 := e1 ▸ same_new hn1
  have u1 : H1 n1 = some (.tup [.ref td, .ref tc]) := e1 ▸ upd_same
  have h11 := S1 _ _ h1
  have h12 := S1 _ _ (dl_le _ _ h2)
  have h16 := S1 _ _ (dl_le _ _ h6)
  walk_at "rd"
  refine ⟨_, _, rfl, .inl (SqT.of h16), ?_⟩
  walk_at "rd"
  refine ⟨?_, fun p1 hp1 => ?_⟩
  · show (pvs ++ [_]).length ≤ _
    rw [List.length_append, List.length_singleton, sizeLine_eq]
    omega
  generalize e2 : upd H1 p1 _ = H2
  have S2 : Same H1 H2 := e2 ▸ same_new hp1
  have u2 : H2 p1 = some (.tup (pvs ++ [.ref n])) := e2 ▸ upd_same
  have h21 := S2 _ _ h11
  walk_at "rd"
  refine ⟨by show 2 ≤ sizeLine; decide, fun s1 hs1 => ?_⟩
  generalize e3 : upd H2 s1 _ = H3
  have S3 : Same H2 H3 := e3 ▸ same_new hs1
  have u3 : H3 s1 = some (.tup [.ref n1, .ref p1]) := e3 ▸ upd_same
  have h31 := S3 _ _ h21
  walk_at "rd"
  have f : Fr dk H (upd H3 dk (.ins (ga K "Desk") dx (dkF bd s1))) := (Fr.of ((S1.trans S2).trans S3)).trans Fr.upd
  have e : Same (dl M H) (dl M (upd H3 dk (.ins (ga K "Desk") dx (dkF bd s1)))) := f.dl hM
  have nw : ∀ {b : Addr} {o u : HO}, b ∉ M → H3 b = some o → dl M (upd H3 dk (.ins (ga K "Desk") dx (dkF bd s1))) b = some o := fun {b o u} hb h => by
    rw [dl_out hb, upd_ne (fun z : b = dk => hb (by rw [z]; exact hM))]
    exact h
  have L1 := hL.same S1
  have L2 := L1.same S2
  refine q _ f ⟨dx, s1, n1, td, tc, p1, pvs ++ [.ref n], upd_same, nw (u := .lst []) (L2.out hs1) u3, nw (u := .lst []) (hL.out hn1) (S3 _ _ (S2 _ _ u1)), hT.mono e, hC.mono e, nw (u := .lst []) (L1.out hp1) (S3 _ _ u2), ?_⟩
  exact Paired.snoc (K56.Paired.imp (fun _ _ z => EnAt.mono e z) h7) ⟨n, td0, tc0, rfl, e _ _ h3, h4.mono e, h5.mono e⟩
theorem Paired.unsnoc {α β : Type} {R : α → β → Prop} : ∀ {m : List β} {l : List α} {b : β}, Paired R l (m ++ [b]) → ∃ l' a, l = l' ++ [a] ∧ Paired R l' m ∧ R a b
  | [], l, b, h => by
    cases h with
    | cons h t => cases t; exact ⟨[], _, rfl, .nil, h⟩
  | c :: m, l, b, h => by
    cases h with
    | cons h t =>
      obtain ⟨l', a, e, h1, h2⟩ := Paired.unsnoc (m := m) t
      exact ⟨_ :: l', a, by rw [e]; rfl, .cons h h1, h2⟩
theorem snoc_cases {α : Type} (l : List α) : l = [] ∨ ∃ m a, l = m ++ [a] := by
  rcases List.eq_nil_or_concat l with h | ⟨m, a, h⟩
  · exact .inl h
  · exact .inr ⟨m, a, by rw [h, List.concat_eq_append]⟩
theorem sIx_last (xs : List V) (v : V) (d : Nat) : HT.sIx (xs ++ [v]).length d (some (-1)) = xs.length := by
  show (if (-1 : Int) < 0 then ((-1 : Int) + ((xs ++ [v]).length : Int)).toNat else min (-1 : Int).toNat (xs ++ [v]).length) = xs.length
  rw [if_pos (by decide), List.length_append, List.length_singleton]
  omega
theorem cut_last (xs : List V) (v : V) : cutV (xs ++ [v]) none (some (-1)) = xs := by
  unfold cutV
  rw [sIx_last]
  show ((xs ++ [v]).drop 0).take (xs.length - 0) = xs
  simp
/-- what the desk's errors hold -/
def XxAt (K : PySem.W.Frag) (H : Hp) (cls : Value) (x : Option Addr) : Due → Prop
  | .broken i f => cls = .ref (ga K "Broken") ∧ ∃ d v, x = some d ∧ H d = some (.xd [("shown", v), ("index", .int i)]) ∧ FdAt H v f
  | .unknown n => cls = .ref (ga K "UnknownName") ∧ ∃ d, x = some d ∧ H d = some (.xd [("given", .str (nmS n))])
  | .inuse i => cls = .ref (ga K "InUse") ∧ ∃ d, x = some d ∧ H d = some (.xd [("index", .int i)])
  | .place i => cls = .ref (ga K "InvalidPlace") ∧ ∃ d, x = some d ∧ H d = some (.xd [("given", .int i)])
  | .nothing => cls = .ref (ga K "NothingToUndo") ∧ x = none
/-- what a deed asks: the desk as it is, the claims' names in the table -/
structure Fit (st : Sta) : Prop where
  nm : ∀ c ∈ st.cs, ∀ n ∈ c.2.names, hasT st.tb n = true
  cl : st.cs.length ≤ 100
  pl : st.past.length ≤ 100
def DeedQ (K : PySem.W.Frag) (M : List Addr) (dk bd : Addr) (ms : List Int) (st : Sta) (d : Dd) (H : Hp) (Q : VK) (E : XK) : Prop :=
  (due ms st d = none → ∀ H', Fr dk H H' → DkAt K (dl M H') H' dk bd (K56.become st d) → Q .non H') ∧
  ∀ u, due ms st d = some u → ∀ cls x H', Same H H' → XxAt K H' cls x u → E cls x H'
def sp_Desk_undo (K : PySem.W.Frag) : Sp := fun vs H Q E => ∃ (M : List Addr) (dk bd : Addr) (st : Sta) (ms : List Int), vs = [.ref dk] ∧ dk ∈ M ∧ Lv M H ∧ DkAt K (dl M H) H dk bd st ∧ st.past.length ≤ 100 ∧ DeedQ K M dk bd ms st .undo H Q E
theorem sc_Desk_undo : FnScope ["self", "past"] ["self"] (defScope s_Desk_undo) := by walk_at "sc"
theorem ok_Desk_undo (T : Tx w K mg) : Fn PG w K mg base 2 (me K "Desk" "undo") (sp_Desk_undo K) := by
  obtain ⟨fd, F⟩ := T.fn _ m_Desk_undo
  refine fn_mk F (F.bindsN fun _ _ _ _ _ _ us hl => match us, hl with | [_], _ => rfl) sc_Desk_undo (fun vs H Q E h => by obtain ⟨M, dk, bd, st, ms, rfl, hM, hL, hD, hlen, q0, q1⟩ := h; rfl) ?_
  intro cdv A outer s H vs Q E hr h
  refine ⟨_, (pss_cons (ps_set (i := 1) sc_Desk_undo.nd rfl (Or.inl rfl) (pe_ix ix_tup (pe_fld (pv 0) rfl) pe_int (fun _ _ => rfl)))
    (pss_cons (ps_if (pt_cmpR (op_eqE (hu_le (c := 0) hr)) (pv 1) (pe_tup pa_nil) (nomark _)) (pss_one (ps_raise rfl (takes_of rfl rfl rfl rfl) (pmk_own0 PySem.F.excBase_ArithmeticError T.x5 (T.g "NothingToUndo") T.x5k (raises_own T.x5s T.x5t) rfl))) pss_nil)
    (pss_one (ps_fld (pv 0) (pe_tup (pa_cons (pe_ix ix_tup (pv 1) (pe_un un_neg pe_int) (fun _ _ => rfl)) (pa_cons (pe_slice sl_tupA (pv 1) po_none (po_some (pe_un un_neg pe_int))) pa_nil))) rfl)))), ?_⟩
  obtain ⟨M, dk, bd, st, ms, rfl, hM, hL, hD, hlen, q0, q1⟩ := h
  obtain ⟨dx, s, n, td0, tc0, p, pvs, h1, h2, h3, h4, h5, h6, h7⟩ := hD
  have hpl : pvs.length = st.past.length := Paired.length h7
  have z2 := dl_le _ _ h2
  have z6 := dl_le _ _ h6
  walk_at "rd"
  refine ⟨by show 0 ≤ sizeLine; decide, fun p1 hp1 => ?_⟩
  generalize e1 : upd H p1 _ = H1
  have S1 : Same H H1 := e1 ▸ same_new hp1
  have u1 : H1 p1 = some (.tup []) := e1 ▸ upd_same
  have h11 := S1 _ _ h1
  have h16 := S1 _ _ z6
  have h12 := S1 _ _ z2
  refine ⟨_, _, pvs, rfl, rfl, .inl ⟨SqT.of h16, SqT.of u1⟩, ?_⟩
  rcases snoc_cases st.past with hp0 | ⟨pre, la, hp0⟩
  · rw [hp0] at h7
    cases h7
    walk_at "rd"
    exact q1 .nothing (by show (if st.past = [] then _ else _) = _; rw [if_pos hp0]) _ _ _ S1 ⟨rfl, rfl⟩
  · rw [hp0] at h7
    obtain ⟨pvs, z, rfl, h7b, h8⟩ := Paired.unsnoc h7
    obtain ⟨n9, td9, tc9, rfl, h9, hT, hC⟩ := h8
    refine ⟨_, rfl, ?_⟩
    refine ite_f (by cases pvs <;> rfl) ?_
    walk_at "rd"
    refine ⟨_, _, _, _, rfl, rfl, SqT.of h16, atI_last _ _, ?_⟩
    walk_at "rd"
    refine ⟨fun z => ?_, fun _ p2 hp2 => ?_⟩
    · have := z.2
      rw [sIx_last, List.length_append, List.length_singleton] at this
      omega
    rw [cut_last]
    generalize e2 : upd H1 p2 _ = H2
    have S2 : Same H1 H2 := e2 ▸ same_new hp2
    have u2 : H2 p2 = some (.tup pvs) := e2 ▸ upd_same
    have h21 := S2 _ _ h11
    walk_at "rd"
    refine ⟨by show 2 ≤ sizeLine; decide, fun s1 hs1 => ?_⟩
    generalize e3 : upd H2 s1 _ = H3
    have S3 : Same H2 H3 := e3 ▸ same_new hs1
    have u3 : H3 s1 = some (.tup [.ref n9, .ref p2]) := e3 ▸ upd_same
    have h31 := S3 _ _ h21
    walk_at "rd"
    have f : Fr dk H (upd H3 dk (.ins (ga K "Desk") dx (dkF bd s1))) := (Fr.of ((S1.trans S2).trans S3)).trans Fr.upd
    have e : Same (dl M H) (dl M (upd H3 dk (.ins (ga K "Desk") dx (dkF bd s1)))) := f.dl hM
    have nw : ∀ {b : Addr} {o : HO}, b ∉ M → H3 b = some o → dl M (upd H3 dk (.ins (ga K "Desk") dx (dkF bd s1))) b = some o := fun {b o} hb h => by
      rw [dl_out hb, upd_ne (fun z : b = dk => hb (by rw [z]; exact hM))]
      exact h
    have L1 := hL.same S1
    have L2 := L1.same S2
    have hne : st.past ≠ [] := by rw [hp0]; simp
    have hdue : due ms st .undo = none := by
      show (if st.past = [] then _ else _) = _
      rw [if_neg hne]
    have hbec : K56.become st .undo = ⟨la.1, la.2, pre⟩ := by
      show (match st.past.getLast? with | some (t, c) => _ | none => _) = _
      rw [hp0, List.getLast?_concat, List.dropLast_concat]
    refine q0 hdue _ f ?_
    rw [hbec]
    exact ⟨dx, s1, n9, td9, tc9, p2, pvs, upd_same, nw (L2.out hs1) u3, e _ _ h9, hT.mono e, hC.mono e, nw (L1.out hp2) (S3 _ _ u2), K56.Paired.imp (fun _ _ z => EnAt.mono e z) h7b⟩
end
end K56
namespace K56
open PySem PySem.Spec PyProof.Rows L2
local macro_rules | `(tactic| walk_at "rd") => `(tactic| repeat (first | (refine ⟨_, rfl, ?_⟩) | (refine ⟨_, _, rfl, rfl, ?_⟩) | (refine ⟨rfl, ?_⟩) | (refine ⟨_, (by assumption : _ = some (HO.tup _)), ?_⟩) | (refine ⟨_, _, _, _, rfl, rfl, SqT.of (by assumption), rfl, ?_⟩) | (refine ⟨_, _, _, _, rfl, rfl, SqL.of (by assumption), rfl, ?_⟩) | (refine ⟨_, _, rfl, .inr (SqT.of (by assumption)), ?_⟩) | (refine ⟨_, _, rfl, .inl (SqL.of (by assumption)), ?_⟩) | (refine ⟨_, _, rfl, SqT.of (by assumption), rfl, ?_⟩) | (refine ⟨_, _, _, _, _, rfl, (by assumption : _ = some (HO.ins _ _ _)), Tx.cls (by assumption) _ (by decide +kernel), Tx.noat (by assumption) _ _ (by decide +kernel), rfl, ?_⟩) | (refine ⟨_, _, _, rfl, (by assumption : _ = some (HO.ins _ _ _)), _, _, rfl, (by assumption : ClAt _ _ _ _), ?_⟩) | (refine ⟨_, _, _, _, rfl, (by assumption : _ = some (HO.ins _ _ _)), Tx.cls (by assumption) _ (by decide +kernel), Tx.noat (by assumption) _ _ (by decide +kernel), Nat.le_of_ble_eq_true rfl, ?_⟩) | (refine ⟨_, _, rfl, SqT.of (by assumption), ?_⟩) | (refine ⟨_, _, rfl, SqL.of (by assumption), ?_⟩) | (refine ⟨_, _, rfl, ?_⟩) | (refine ⟨_, _, _, rfl, (by assumption : _ = some (HO.ins _ _ _)), ?_⟩) | (refine ⟨_, _, _, rfl, (by assumption : _ = some (HO.tup _)), ?_⟩) | (refine ⟨_, _, _, rfl, (by assumption : ClAt _ _ _ _), ?_⟩) | (refine ⟨_, _, _, _, _, rfl, (by assumption : ClAt _ _ _ _), (by assumption : _ = some (HO.tup _)), ?_⟩) | (refine ⟨.inl ⟨rfl, _, SqL.of (by assumption)⟩, ?_⟩) | (refine ⟨⟨_, SqL.of (by assumption)⟩, ?_⟩) | (refine ⟨⟨_, SqT.of (by assumption)⟩, ?_⟩) | (with_reducible refine ite_t ?kc ?kg; (case kc => simp; done)) | (with_reducible refine ite_f ?kc ?kg; (case kc => simp; done))))
local macro_rules | `(tactic| walk_at "sc") => `(tactic| exact ⟨rfl, rfl, rfl, by decide +kernel, rfl, by decide +kernel, by decide +kernel⟩)
def fdD : Fd → PyData
  | .ld none => .str "endless"
  | .ld (some i) => .int i
  | .co l => .tuple (l.map .int)
theorem dp_ints (K : PySem.W.Frag) (H : Hp) : ∀ l : List Int, DpAll K H (l.map V.int) (l.map .int)
  | [] => .nil
  | _ :: l => .cons (.int _) (dp_ints K H l)
theorem lay_ints : ∀ l : List Int, PyData.canLayAll0 (l.map .int) = true ∧ PyData.depthAll (l.map .int) = 0
  | [] => ⟨rfl, rfl⟩
  | x :: l => by
    obtain ⟨h1, h2⟩ := lay_ints l
    refine ⟨?_, ?_⟩
    · show (PyData.canLay0 (.int x) && PyData.canLayAll0 (l.map .int)) = true
      rw [h1]
      rfl
    · show max (PyData.depth (.int x)) (PyData.depthAll (l.map .int)) = 0
      rw [h2]
      rfl
theorem dp_fd (K : PySem.W.Frag) {H : Hp} {v : V} {f : Fd} (h : FdAt H v f) : Dp K H v (fdD f) := by
  cases f with
  | ld o =>
    obtain rfl : v = ldV o := h
    cases o with
    | none => exact .str _
    | some i => exact .int i
  | co l =>
    obtain ⟨t, rfl, ht⟩ := h
    exact .tup (SqT.of ht) (dp_ints K H l)
theorem fd_lay (f : Fd) : PyData.canLay0 (fdD f) = true ∧ PyData.depth (fdD f) ≤ 1 := by
  cases f with
  | ld o =>
    cases o with
    | none => exact ⟨by decide +kernel, Nat.zero_le 1⟩
    | some i => exact ⟨rfl, Nat.zero_le 1⟩
  | co l =>
    obtain ⟨h1, h2⟩ := lay_ints l
    exact ⟨h1, by rw [show PyData.depth (fdD (.co l)) = PyData.depthAll (l.map .int) + 1 from rfl, h2]; decide⟩
def ftD : Option Fd → List PyData
  | none => []
  | some f => [fdD f]
theorem dp_ft (K : PySem.W.Frag) {H : Hp} {p : Addr} {o : Option Fd} (h : FtAt H p o) : Dp K H (.ref p) (.tuple (ftD o)) := by
  cases o with
  | none => exact .tup (SqT.of h) .nil
  | some f =>
    obtain ⟨v, hv, hp⟩ := h
    exact .tup (SqT.of hp) (.cons (dp_fd K hv) .nil)
theorem FdAt.mono {H H' : Hp} (e : Same H H') {v : V} {f : Fd} (h : FdAt H v f) : FdAt H' v f := by
  cases f with
  | ld o => exact h
  | co l =>
    obtain ⟨t, h1, h2⟩ := h
    exact ⟨t, h1, e _ _ h2⟩
theorem FtAt.mono {H H' : Hp} (e : Same H H') {p : Addr} {o : Option Fd} (h : FtAt H p o) : FtAt H' p o := by
  cases o with
  | none => exact e _ _ h
  | some f =>
    obtain ⟨v, h1, h2⟩ := h
    exact ⟨v, h1.mono e, e _ _ h2⟩
theorem ft_shaped (o : Option Fd) : SeqAt.shaped (.tuple (ftD o)) = true := by
  cases o with
  | none => rfl
  | some f =>
    obtain ⟨h1, h2⟩ := fd_lay f
    unfold SeqAt.shaped
    have e1 : PyData.canLay0 (.tuple (ftD (some f))) = (PyData.canLay0 (fdD f) && true) := rfl
    have e2 : PyData.depth (.tuple (ftD (some f))) = max (PyData.depth (fdD f)) 0 + 1 := rfl
    rw [e1, h1, e2]
    simp
    omega
theorem ft_eqv (o : Option Fd) : PyData.eqv (.tuple (ftD o)) (.tuple []) = o.isNone := by
  cases o <;> rfl
section
variable {w : World} {K : PySem.W.Frag} {mg : Str → Option Value} {base : Heap}
def sp_Desk_claim (K : PySem.W.Frag) : Sp := fun vs H Q E => ∃ (M : List Addr) (dk bd : Addr) (st : Sta) (lo hi : Int) (a : Addr) (c : Cm), vs = [.ref dk, .ref a] ∧ dk ∈ M ∧ Lv M H ∧ DkAt K (dl M H) H dk bd st ∧ CmAt (dl M H) a c ∧ c.ok ∧ BdAt H bd lo hi ∧ (-3 ≤ lo ∧ lo ≤ hi ∧ hi ≤ 3 ∧ hi - lo ≤ 2) ∧ st.past.length ≤ 100 ∧ st.cs.length ≤ 100 ∧ DeedQ K M dk bd (moves lo hi) st (.claim a c) H Q E
theorem sc_Desk_claim : FnScope ["self", "claim", "fault"] ["self", "claim"] (defScope s_Desk_claim) := by walk_at "sc"
theorem ok_Desk_claim (T : Tx w K mg) : Fn PG w K mg base 15 (me K "Desk" "claim") (sp_Desk_claim K) := by
  obtain ⟨fd, F⟩ := T.fn _ m_Desk_claim
  refine fn_mk F (F.bindsN fun _ _ _ _ _ _ us hl => match us, hl with | [_, _], _ => rfl) sc_Desk_claim (fun vs H Q E h => by obtain ⟨M, dk, bd, st, lo, hi, a, c, rfl, hM, hL, hD, ha, ok, hbd, hz, hlen, hcl, q0, q1⟩ := h; rfl) ?_
  intro cdv A outer s H vs Q E hr h
  refine ⟨_, (pss_cons (ps_expr (pe_cl (ok_check_claim T) (hr.mono (by decide)) (T.g "check_claim") (T.kp _ m_check_claim) (fun σ => passAt (takes_of rfl rfl rfl rfl) σ) (pa_cons (pe_pr (pv 0) (T.cls "Desk" (by decide +kernel)) (T.pr _ mg_Desk_table) (ok_Desk_table T) (hr.mono (by decide))) (pa_cons (pv 1) pa_nil))))
    (pss_cons (ps_set (i := 2) sc_Desk_claim.nd rfl (Or.inl rfl) (pe_cl (ok_fault_of T) (hr.mono (by decide)) (T.g "fault_of") (T.kp _ m_fault_of) (fun _ => pas0) (pa_cons (pe_pr (pv 0) (T.cls "Desk" (by decide +kernel)) (T.pr _ mg_Desk_table) (ok_Desk_table T) (hr.mono (by decide))) (pa_cons (pe_fld (pv 0) rfl) (pa_cons (pv 1) pa_nil)))))
    (pss_cons (ps_if (pt_cmpR (op_neD (hu_le hr)) (pv 2) (pe_tup pa_nil) (nomark _)) (pss_one (ps_raise rfl (takes_of rfl rfl rfl rfl) (pmk_x2 T.x4 hr (pa_cons (pe_callB call_len_seq rfl (T.f "len") (by decide +kernel) (pa_cons (pe_pr (pv 0) (T.cls "Desk" (by decide +kernel)) (T.pr _ mg_Desk_claims) (ok_Desk_claims T) (hr.mono (by decide))) pa_nil)) (pa_cons (pe_ix ix_tup (pv 2) pe_int (fun _ _ => rfl)) pa_nil)) rfl))) pss_nil)
    (pss_one (ps_expr (pe_ml (pv 0) (T.cls "Desk" (by decide +kernel)) (T.meth "Desk" "become" (by decide +kernel)) (ok_Desk_become T) (hr.mono (by decide)) (fun _ => pas0) (pa_cons (pe_pr (pv 0) (T.cls "Desk" (by decide +kernel)) (T.pr _ mg_Desk_table) (ok_Desk_table T) (hr.mono (by decide))) (pa_cons (pe_tup (StX.pa_star (pe_pr (pv 0) (T.cls "Desk" (by decide +kernel)) (T.pr _ mg_Desk_claims) (ok_Desk_claims T) (hr.mono (by decide))) (pa_cons (pv 1) pa_nil))) pa_nil)))))))), ?_⟩
  obtain ⟨M, dk, bd, st, lo, hi, a, c, rfl, hM, hL, hD, ha, ok, hbd, hz, hlen, hcl, q0, q1⟩ := h
  obtain ⟨dx, s, n, td, tc, p, pvs, h1, h2, h3, h4, h5, h6, h7⟩ := id hD
  have z2 := dl_le _ _ h2
  have z3 := dl_le _ _ h3
  have zS : DkS K H dk dx bd s n p td tc := ⟨h1, z2, z3⟩
  have zT := h4.mono dl_le
  have zC := h5.mono dl_le
  have za : CmAt H a c := dl_le _ _ ha
  walk_at "rd"
  refine ⟨dk, dx, bd, s, n, p, td, tc, rfl, zS, ?_⟩
  walk_at "rd"
  have due_eq : due (moves lo hi) st (.claim a c) = match c.names.find? fun n => !hasT st.tb n with | some n => some (.unknown n) | none => (faultC st.tb (moves lo hi) c).map (.broken st.cs.length) := rfl
  refine ⟨td, a, c, st.tb, rfl, .inl zT.1, za, ok, fun e H1 S1 => ?_, fun nm e H1 x S1 hx => ?_⟩
  · rw [e] at due_eq
    have due_eq : due (moves lo hi) st (.claim a c) = (faultC st.tb (moves lo hi) c).map (.broken st.cs.length) := due_eq
    have h11 := S1 _ _ h1
    have zS1 : DkS K H1 dk dx bd s n p td tc := ⟨h11, S1 _ _ z2, S1 _ _ z3⟩
    walk_at "rd"
    refine ⟨dk, dx, bd, s, n, p, td, tc, rfl, zS1, ?_⟩
    walk_at "rd"
    have hn : ∀ n ∈ c.names, hasT st.tb n = true := fun n hn => by
      have := List.find?_eq_none.mp e n hn
      simpa using this
    refine ⟨td, bd, a, c, st.tb, lo, hi, rfl, .inl (S1 _ _ zT.1), zT.2.mono S1, S1 _ _ za, hn, S1 _ _ hbd, hz, fun H2 p2 S2 hp2 => ?_⟩
    have h21 := S2 _ _ h11
    have S12 := S1.trans S2
    walk_at "rd"
    refine ⟨by show 0 ≤ sizeLine; decide, fun p3 hp3 => ?_⟩
    generalize e3 : upd H2 p3 _ = H3
    have S3 : Same H2 H3 := e3 ▸ same_new hp3
    have u3 : H3 p3 = some (.tup []) := e3 ▸ upd_same
    have S13 := S12.trans S3
    have hp3' : FtAt H3 p2 (faultC st.tb (moves lo hi) c) := FtAt.mono S3 hp2
    have h31 := S13 _ _ h1
    have zS3 : DkS K H3 dk dx bd s n p td tc := ⟨h31, S13 _ _ z2, S13 _ _ z3⟩
    refine ⟨_, _, dp_ft _ hp3', .tup (SqT.of u3) .nil, ft_shaped _, rfl, ?_⟩
    rw [ft_eqv]
    cases hf : faultC st.tb (moves lo hi) c with
    | none =>
      rw [hf] at due_eq
      have hc3 := S13 _ _ zC.1
      walk_at "rd"
      refine ⟨dk, dx, bd, s, n, p, td, tc, rfl, zS3, ?_⟩
      walk_at "rd"
      refine ⟨dk, dx, bd, s, n, p, td, tc, rfl, zS3, ?_⟩
      refine ⟨_, _, rfl, .inl (SqT.of hc3), ?_⟩
      walk_at "rd"
      refine ⟨?_, fun p4 hp4 => ?_⟩
      · show (csR st.cs ++ [_]).length ≤ _
        unfold csR
        rw [List.length_append, List.length_singleton, List.length_map, sizeLine_eq]
        omega
      generalize e4 : upd H3 p4 _ = H4
      have S4 : Same H3 H4 := e4 ▸ same_new hp4
      have u4 : H4 p4 = some (.tup (csR st.cs ++ [.ref a])) := e4 ▸ upd_same
      have S14 := S13.trans S4
      have G : Same (dl M H) (dl M H4) := K56.Same.dl S14
      walk_at "rd"
      refine ⟨M, dk, bd, st, st.tb, st.cs ++ [(a, c)], td, p4, rfl, hM, hL.same S14, hD.same S14, h4.mono G, ⟨dl_at ((hL.same S13).out hp4) (by rw [u4]; unfold csR; rw [List.map_append]; rfl), fun x hx => ?_⟩, hlen, fun H5 f5 hd5 => q0 due_eq H5 ((Fr.of S14).trans f5) hd5⟩
      rcases List.mem_append.mp hx with z | z
      · exact (h5.mono G).2 x z
      · rw [List.mem_singleton] at z
        subst z
        exact ⟨G _ _ ha, ok⟩
    | some f =>
      rw [hf] at due_eq hp3'
      obtain ⟨v, hv, hpv⟩ := hp3'
      have hc3 := S13 _ _ zC.1
      walk_at "rd"
      refine ⟨dk, dx, bd, s, n, p, td, tc, rfl, zS3, ?_⟩
      walk_at "rd"
      refine fun d hd => q1 _ due_eq _ _ _ (S13.trans (same_new hd)) ⟨rfl, d, v, rfl, ?_, hv.mono (same_new hd)⟩
      rw [upd_same]
      unfold csR
      rw [List.length_map]
  · rw [e] at due_eq
    exact q1 _ due_eq _ _ _ S1 ⟨rfl, x, rfl, hx⟩
end
end K56
namespace K56
open PySem PySem.Spec PyProof.Rows L2
local macro_rules | `(tactic| walk_at "rd") => `(tactic| repeat (first | (refine ⟨_, rfl, ?_⟩) | (refine ⟨_, _, rfl, rfl, ?_⟩) | (refine ⟨rfl, ?_⟩) | (refine ⟨_, (by assumption : _ = some (HO.tup _)), ?_⟩) | (refine ⟨_, _, _, _, rfl, rfl, SqT.of (by assumption), rfl, ?_⟩) | (refine ⟨_, _, _, _, rfl, rfl, SqL.of (by assumption), rfl, ?_⟩) | (refine ⟨_, _, rfl, .inr (SqT.of (by assumption)), ?_⟩) | (refine ⟨_, _, rfl, .inl (SqL.of (by assumption)), ?_⟩) | (refine ⟨_, _, rfl, SqT.of (by assumption), rfl, ?_⟩) | (refine ⟨_, _, _, _, _, rfl, (by assumption : _ = some (HO.ins _ _ _)), Tx.cls (by assumption) _ (by decide +kernel), Tx.noat (by assumption) _ _ (by decide +kernel), rfl, ?_⟩) | (refine ⟨_, _, _, rfl, (by assumption : _ = some (HO.ins _ _ _)), _, _, rfl, (by assumption : ClAt _ _ _ _), ?_⟩) | (refine ⟨_, _, _, _, rfl, (by assumption : _ = some (HO.ins _ _ _)), Tx.cls (by assumption) _ (by decide +kernel), Tx.noat (by assumption) _ _ (by decide +kernel), Nat.le_of_ble_eq_true rfl, ?_⟩) | (refine ⟨_, _, rfl, SqT.of (by assumption), ?_⟩) | (refine ⟨_, _, rfl, SqL.of (by assumption), ?_⟩) | (refine ⟨_, _, rfl, ?_⟩) | (refine ⟨_, _, _, rfl, (by assumption : _ = some (HO.ins _ _ _)), ?_⟩) | (refine ⟨_, _, _, rfl, (by assumption : _ = some (HO.tup _)), ?_⟩) | (refine ⟨_, _, _, rfl, (by assumption : ClAt _ _ _ _), ?_⟩) | (refine ⟨_, _, _, _, _, rfl, (by assumption : ClAt _ _ _ _), (by assumption : _ = some (HO.tup _)), ?_⟩) | (refine ⟨.inl ⟨rfl, _, SqL.of (by assumption)⟩, ?_⟩) | (refine ⟨⟨_, SqL.of (by assumption)⟩, ?_⟩) | (refine ⟨⟨_, SqT.of (by assumption)⟩, ?_⟩) | (with_reducible refine ite_t ?kc ?kg; (case kc => simp; done)) | (with_reducible refine ite_f ?kc ?kg; (case kc => simp; done))))
local macro_rules | `(tactic| walk_at "sc") => `(tactic| exact ⟨rfl, rfl, rfl, by decide +kernel, rfl, by decide +kernel, by decide +kernel⟩)
theorem cut_to (xs : List V) {i : Nat} (h : i < xs.length) : cutV xs none (some (i : Int)) = xs.take i := by
  unfold cutV
  rw [HT.sIx_nat]
  show (xs.drop 0).take (min i xs.length - 0) = xs.take i
  rw [Nat.min_eq_left (Nat.le_of_lt h)]
  rfl
theorem cut_from (xs : List V) {i : Nat} (h : i ≤ xs.length) : cutV xs (some (i : Int)) none = xs.drop i := by
  unfold cutV
  rw [HT.sIx_nat, HT.sIx_none, Nat.min_eq_left h]
  exact List.take_of_length_le (by rw [List.length_drop]; omega)
section
variable {w : World} {K : PySem.W.Frag} {mg : Str → Option Value} {base : Heap}
def sp_Desk_lift (K : PySem.W.Frag) : Sp := fun vs H Q E => ∃ (M : List Addr) (dk bd : Addr) (st : Sta) (ms : List Int) (i : Int), vs = [.ref dk, .int i] ∧ dk ∈ M ∧ Lv M H ∧ DkAt K (dl M H) H dk bd st ∧ st.past.length ≤ 100 ∧ st.cs.length ≤ 100 ∧ DeedQ K M dk bd ms st (.lift i) H Q E
theorem sc_Desk_lift : FnScope ["self", "index"] ["self", "index"] (defScope s_Desk_lift) := by walk_at "sc"
theorem ok_Desk_lift (T : Tx w K mg) : Fn PG w K mg base 4 (me K "Desk" "lift") (sp_Desk_lift K) := by
  obtain ⟨fd, F⟩ := T.fn _ m_Desk_lift
  refine fn_mk F (F.bindsN fun _ _ _ _ _ _ us hl => match us, hl with | [_, _], _ => rfl) sc_Desk_lift (fun vs H Q E h => by obtain ⟨M, dk, bd, st, ms, i, rfl, hM, hL, hD, hlen, hcl, q0, q1⟩ := h; rfl) ?_
  intro cdv A outer s H vs Q E hr h
  refine ⟨_, (pss_cons (ps_if (pt_not (pt_val (pe_cl (ok_is_between T) (hr.mono (by decide)) (T.g "is_between") (T.kp _ m_is_between) (fun _ => pas0) (pa_cons (pv 1) (pa_cons pe_int (pa_cons (pe_op op_sub (pe_callB call_len_seq rfl (T.f "len") (by decide +kernel) (pa_cons (pe_pr (pv 0) (T.cls "Desk" (by decide +kernel)) (T.pr _ mg_Desk_claims) (ok_Desk_claims T) (hr.mono (by decide))) pa_nil)) pe_int) pa_nil)))))) (pss_one (ps_raise rfl (takes_of rfl rfl rfl rfl) (pmk_x1 T.x3 hr (pa_cons (pv 1) pa_nil) rfl))) pss_nil)
    (pss_one (ps_expr (pe_ml (pv 0) (T.cls "Desk" (by decide +kernel)) (T.meth "Desk" "become" (by decide +kernel)) (ok_Desk_become T) (hr.mono (by decide)) (fun _ => pas0) (pa_cons (pe_pr (pv 0) (T.cls "Desk" (by decide +kernel)) (T.pr _ mg_Desk_table) (ok_Desk_table T) (hr.mono (by decide))) (pa_cons (pe_tup (StX.pa_star (pe_slice sl_tupA (pe_pr (pv 0) (T.cls "Desk" (by decide +kernel)) (T.pr _ mg_Desk_claims) (ok_Desk_claims T) (hr.mono (by decide))) po_none (po_some (pv 1))) (StX.pa_star (pe_slice sl_tupA (pe_pr (pv 0) (T.cls "Desk" (by decide +kernel)) (T.pr _ mg_Desk_claims) (ok_Desk_claims T) (hr.mono (by decide))) (po_some (pe_op op_add (pv 1) pe_int)) po_none) pa_nil))) pa_nil)))))), ?_⟩
  obtain ⟨M, dk, bd, st, ms, i, rfl, hM, hL, hD, hlen, hcl, q0, q1⟩ := h
  obtain ⟨dx, s, n, td, tc, p, pvs, h1, h2, h3, h4, h5, h6, h7⟩ := id hD
  have z2 := dl_le _ _ h2
  have z3 := dl_le _ _ h3
  have zS : DkS K H dk dx bd s n p td tc := ⟨h1, z2, z3⟩
  have zC := (h5.mono dl_le).1
  have lc : (csR st.cs).length = st.cs.length := by unfold csR; rw [List.length_map]
  walk_at "rd"
  refine ⟨dk, dx, bd, s, n, p, td, tc, rfl, zS, ?_⟩
  walk_at "rd"
  refine ⟨_, _, _, rfl, ?_⟩
  by_cases hi : 0 ≤ i ∧ i < st.cs.length
  · have hdue : due ms st (.lift i) = none := by
      show (if 0 ≤ i ∧ i < st.cs.length then _ else _) = _
      rw [if_pos hi]
    obtain ⟨k, rfl⟩ := Int.eq_ofNat_of_zero_le hi.1
    have hk : k < st.cs.length := by omega
    rw [decide_eq_true (show 0 ≤ (k : Int) ∧ (k : Int) ≤ ((csR st.cs).length : Nat) - 1 by rw [lc]; omega)]
    walk_at "rd"
    refine ⟨dk, dx, bd, s, n, p, td, tc, rfl, zS, ?_⟩
    walk_at "rd"
    refine ⟨dk, dx, bd, s, n, p, td, tc, rfl, zS, ?_⟩
    walk_at "rd"
    have hk' : k < (csR st.cs).length := by omega
    refine ⟨fun z => ?_, fun _ p1 hp1 => ?_⟩
    · have := z.2
      rw [HT.sIx_nat] at this
      omega
    rw [cut_to _ hk']
    generalize e1 : upd H p1 _ = H1
    have S1 : Same H H1 := e1 ▸ same_new hp1
    have u1 : H1 p1 = some (.tup ((csR st.cs).take k)) := e1 ▸ upd_same
    have h11 := S1 _ _ h1
    have zC1 := S1 _ _ zC
    have zS1 : DkS K H1 dk dx bd s n p td tc := ⟨h11, S1 _ _ z2, S1 _ _ z3⟩
    refine ⟨_, _, rfl, .inl (SqT.of u1), ?_⟩
    walk_at "rd"
    refine ⟨dk, dx, bd, s, n, p, td, tc, rfl, zS1, ?_⟩
    walk_at "rd"
    refine ⟨fun z => ?_, fun _ p2 hp2 => ?_⟩
    · have := z.1
      rw [show ((k : Int) + 1) = ((k + 1 : Nat) : Int) by omega, HT.sIx_nat] at this
      omega
    rw [show ((k : Int) + 1) = ((k + 1 : Nat) : Int) by omega, cut_from _ hk']
    generalize e2 : upd H1 p2 _ = H2
    have S2 : Same H1 H2 := e2 ▸ same_new hp2
    have u2 : H2 p2 = some (.tup ((csR st.cs).drop (k + 1))) := e2 ▸ upd_same
    have h21 := S2 _ _ h11
    refine ⟨_, _, rfl, .inl (SqT.of u2), ?_⟩
    walk_at "rd"
    refine ⟨?_, fun p4 hp4 => ?_⟩
    · show ((csR st.cs).take k ++ ((csR st.cs).drop (k + 1) ++ [])).length ≤ _
      rw [List.length_append, List.length_append, List.length_take, List.length_drop, sizeLine_eq]
      simp only [List.length_nil]
      omega
    generalize e4 : upd H2 p4 _ = H4
    have S3 : Same H2 H4 := e4 ▸ same_new hp4
    have u4 : H4 p4 = some (.tup ((csR st.cs).take k ++ ((csR st.cs).drop (k + 1) ++ []))) := e4 ▸ upd_same
    have S12 := S1.trans S2
    have S14 := S12.trans S3
    have G : Same (dl M H) (dl M H4) := K56.Same.dl S14
    walk_at "rd"
    refine ⟨M, dk, bd, st, st.tb, st.cs.take k ++ st.cs.drop (k + 1), td, p4, rfl, hM, hL.same S14, hD.same S14, h4.mono G, ⟨dl_at ((hL.same S12).out hp4) (by rw [u4]; unfold csR; rw [List.append_nil, List.map_append, List.map_take, List.map_drop]), fun x hx => ?_⟩, hlen, fun H5 f5 hd5 => q0 hdue H5 ((Fr.of S14).trans f5) hd5⟩
    rcases List.mem_append.mp hx with z | z
    · exact (h5.mono G).2 x (List.mem_of_mem_take z)
    · exact (h5.mono G).2 x (List.mem_of_mem_drop z)
  · have hdue : due ms st (.lift i) = some (.place i) := by
      show (if 0 ≤ i ∧ i < st.cs.length then _ else _) = _
      rw [if_neg hi]
    rw [decide_eq_false (show ¬ (0 ≤ i ∧ i ≤ ((csR st.cs).length : Nat) - 1) by rw [lc]; omega)]
    walk_at "rd"
    exact fun d hd => q1 _ hdue _ _ _ (same_new hd) ⟨rfl, d, rfl, upd_same⟩
end
end K56
namespace K56
open PySem PySem.Spec PyProof.Rows L2
local macro_rules | `(tactic| walk_at "rd") => `(tactic| repeat (first | (refine ⟨_, rfl, ?_⟩) | (refine ⟨_, _, rfl, rfl, ?_⟩) | (refine ⟨rfl, ?_⟩) | (refine ⟨_, (by assumption : _ = some (HO.tup _)), ?_⟩) | (refine ⟨_, _, _, _, rfl, rfl, SqT.of (by assumption), rfl, ?_⟩) | (refine ⟨_, _, _, _, rfl, rfl, SqL.of (by assumption), rfl, ?_⟩) | (refine ⟨_, _, rfl, .inr (SqT.of (by assumption)), ?_⟩) | (refine ⟨_, _, rfl, .inl (SqL.of (by assumption)), ?_⟩) | (refine ⟨_, _, rfl, SqT.of (by assumption), rfl, ?_⟩) | (refine ⟨_, _, _, _, _, rfl, (by assumption : _ = some (HO.ins _ _ _)), Tx.cls (by assumption) _ (by decide +kernel), Tx.noat (by assumption) _ _ (by decide +kernel), rfl, ?_⟩) | (refine ⟨_, _, _, rfl, (by assumption : _ = some (HO.ins _ _ _)), _, _, rfl, (by assumption : ClAt _ _ _ _), ?_⟩) | (refine ⟨_, _, _, _, rfl, (by assumption : _ = some (HO.ins _ _ _)), Tx.cls (by assumption) _ (by decide +kernel), Tx.noat (by assumption) _ _ (by decide +kernel), Nat.le_of_ble_eq_true rfl, ?_⟩) | (refine ⟨_, _, rfl, SqT.of (by assumption), ?_⟩) | (refine ⟨_, _, rfl, SqL.of (by assumption), ?_⟩) | (refine ⟨_, _, rfl, ?_⟩) | (refine ⟨_, _, _, rfl, (by assumption : _ = some (HO.ins _ _ _)), ?_⟩) | (refine ⟨_, _, _, rfl, (by assumption : _ = some (HO.tup _)), ?_⟩) | (refine ⟨_, _, _, rfl, (by assumption : ClAt _ _ _ _), ?_⟩) | (refine ⟨_, _, _, _, _, rfl, (by assumption : ClAt _ _ _ _), (by assumption : _ = some (HO.tup _)), ?_⟩) | (refine ⟨.inl ⟨rfl, _, SqL.of (by assumption)⟩, ?_⟩) | (refine ⟨⟨_, SqL.of (by assumption)⟩, ?_⟩) | (refine ⟨⟨_, SqT.of (by assumption)⟩, ?_⟩) | (with_reducible refine ite_t ?kc ?kg; (case kc => simp; done)) | (with_reducible refine ite_f ?kc ?kg; (case kc => simp; done))))
local macro_rules | `(tactic| walk_at "sc") => `(tactic| exact ⟨rfl, rfl, rfl, by decide +kernel, rfl, by decide +kernel, by decide +kernel⟩)
theorem use_drop (n : Nm) {cs : Cs} {i : Nat} {x : Nat × Cm} (h : cs[i]? = some x) : use n i (cms (cs.drop i)) = if n ∈ x.2.names then some i else use n (i + 1) (cms (cs.drop (i + 1))) := by
  obtain ⟨hi, e⟩ := List.getElem?_eq_some_iff.mp h
  rw [List.drop_eq_getElem_cons hi, e]
  rfl
theorem brk_drop (t : Tb) (ms : List Int) (n : Nm) {cs : Cs} {i : Nat} {x : Nat × Cm} (h : cs[i]? = some x) : brk t ms n i (cms (cs.drop i)) =
    if n ∈ x.2.names then (match faultC t ms x.2 with | some f => some (.broken i f) | none => brk t ms n (i + 1) (cms (cs.drop (i + 1)))) else brk t ms n (i + 1) (cms (cs.drop (i + 1))) := by
  obtain ⟨hi, e⟩ := List.getElem?_eq_some_iff.mp h
  rw [List.drop_eq_getElem_cons hi, e]
  rfl
theorem inV_names (n : Nm) : ∀ l : List Nm, inV (.str (nmS n)) (nmL l) = decide (n ∈ l)
  | [] => rfl
  | m :: l => by
    have ih := inV_names n l
    unfold inV nmL at ih ⊢
    have e : eqV (.str (nmS m)) (.str (nmS n)) = decide (n = m) := by cases n <;> cases m <;> decide +kernel
    rw [List.map_cons, List.any_cons, ih, e]
    by_cases c : n = m <;> by_cases d : n ∈ l <;> simp [c, d]
theorem flat_names : ∀ l : List Nm, (nmL l).all flatV = true
  | [] => rfl
  | m :: l => by
    have ih := flat_names l
    unfold nmL at ih ⊢
    rw [List.map_cons, List.all_cons, ih]
    rfl
theorem tbK_put (t : Tb) (n : Nm) (a : Nat × Pt) : putK (tbK t) (.inr (nmS n)) (.ref a.1) = tbK (putT t n a) := by
  have e : ((tbK t).any fun kv => decide (kv.1 = (.inr (nmS n) : Key))) = hasT t n := by
    rw [valV_any, valV_tb]
    unfold hasT
    rw [Option.isSome_map]
  unfold putK putT
  rw [e]
  split
  · unfold tbK
    rw [List.map_map, List.map_map]
    refine List.map_congr_left fun p _ => ?_
    simp only [Function.comp]
    by_cases c : p.1 = n
    · rw [if_pos (by rw [c]), if_pos c]
    · rw [if_neg (fun e => c (nmS_inj.mp (Sum.inr.inj e))), if_neg c]
  · unfold tbK
    rw [List.map_append]
    rfl
theorem getT_mem {t : Tb} (hn : (t.map (·.1)).Nodup) {p : Nm × (Nat × Pt)} (h : p ∈ t) : getT t p.1 = some p.2 := by
  induction t with
  | nil => cases h
  | cons q t ih =>
    rw [List.map_cons, List.nodup_cons] at hn
    unfold getT
    rcases List.mem_cons.mp h with z | z
    · subst z
      rw [List.find?_cons_of_pos (by simp)]
      rfl
    · have : ¬ q.1 = p.1 := fun e => hn.1 (e ▸ List.mem_map_of_mem z)
      rw [List.find?_cons_of_neg (by simpa using this)]
      exact ih hn.2 z
theorem names_two {t : Tb} (hn : (t.map (·.1)).Nodup) : t.length ≤ 2 := by
  rcases t with _ | ⟨a, _ | ⟨b, _ | ⟨c, r⟩⟩⟩
  · exact Nat.zero_le _
  · exact Nat.le_succ _
  · exact Nat.le_refl _
  · obtain ⟨a, a2⟩ := a
    obtain ⟨b, b2⟩ := b
    obtain ⟨c, c2⟩ := c
    exfalso
    simp only [List.map_cons, List.nodup_cons, List.mem_cons, not_or] at hn
    cases a <;> cases b <;> cases c <;> simp at hn
section
variable {w : World} {K : PySem.W.Frag} {mg : Str → Option Value} {base : Heap}
def sp_Desk_remove (K : PySem.W.Frag) : Sp := fun vs H Q E => ∃ (M : List Addr) (dk bd : Addr) (st : Sta) (ms : List Int) (nm : Nm), vs = [.ref dk, .str (nmS nm)] ∧ dk ∈ M ∧ Lv M H ∧ DkAt K (dl M H) H dk bd st ∧ (st.tb.map (·.1)).Nodup ∧ st.past.length ≤ 100 ∧ st.cs.length ≤ 100 ∧ DeedQ K M dk bd ms st (.remove nm) H Q E
theorem sc_Desk_remove : FnScope ["self", "name", "index", "claim", "other"] ["self", "name"] (defScope s_Desk_remove) := by walk_at "sc"
theorem ok_Desk_remove (T : Tx w K mg) : Fn PG w K mg base 4 (me K "Desk" "remove") (sp_Desk_remove K) := by
  obtain ⟨fd, F⟩ := T.fn _ m_Desk_remove
  refine fn_mk F (F.bindsN fun _ _ _ _ _ _ us hl => match us, hl with | [_, _], _ => rfl) sc_Desk_remove (fun vs H Q E h => by obtain ⟨M, dk, bd, st, ms, nm, rfl, hM, hL, hD, hnd, hlen, hcl, q0, q1⟩ := h; rfl) ?_
  intro cdv A outer s H vs Q E hr h
  refine ⟨_, (pss_cons (ps_if (pt_not (pt_val (pe_cl (ok_is_under T) (hr.mono (by decide)) (T.g "is_under") (T.kp _ m_is_under) (fun _ => pas0) (pa_cons (pe_pr (pv 0) (T.cls "Desk" (by decide +kernel)) (T.pr _ mg_Desk_table) (ok_Desk_table T) (hr.mono (by decide))) (pa_cons (pv 1) pa_nil))))) (pss_one (ps_raise rfl (takes_of rfl rfl rfl rfl) (pmk_x1 T.x1 hr (pa_cons (pv 1) pa_nil) rfl))) pss_nil)
    (pss_cons (ps_for (passes_of rfl) rfl (pi_enumT rfl (T.f "enumerate") (pa_cons (pe_pr (pv 0) (T.cls "Desk" (by decide +kernel)) (T.pr _ mg_Desk_claims) (ok_Desk_claims T) (hr.mono (by decide))) pa_nil)) (pg_tup rfl (pgs_cons (pg_name (i := 2) sc_Desk_remove.nd rfl (Or.inl rfl)) (pgs_cons (pg_name (i := 3) sc_Desk_remove.nd rfl (Or.inl rfl)) pgs_nil))) (pss_one (ps_if (pt_cmpR op_in_seq (pv 1) (pe_cl (ok_names_of T) (hr.mono (by decide)) (T.g "names_of") (T.kp _ m_names_of) (fun _ => pas0) (pa_cons (pv 3) pa_nil)) rfl) (pss_one (ps_raise rfl (takes_of rfl rfl rfl rfl) (pmk_x1 T.x2 hr (pa_cons (pv 2) pa_nil) rfl))) pss_nil)))
    (pss_one (ps_expr (pe_ml (pv 0) (T.cls "Desk" (by decide +kernel)) (T.meth "Desk" "become" (by decide +kernel)) (ok_Desk_become T) (hr.mono (by decide)) (fun _ => pas0) (pa_cons (pe_lock (pe_dc (own := [("other", 4)]) (g := gName 4) rfl sc_Desk_remove.nd (pi_keys (pe_pr (pv 0) (T.cls "Desk" (by decide +kernel)) (T.pr _ mg_Desk_table) (ok_Desk_table T) (hr.mono (by decide)))) (blkOk_by (N := ["self", "name", "index", "claim", "other"]) (sc := defScope s_Desk_remove) (by decide +kernel)) (fun _ _ _ _ _ => pg_name (i := 4) sc_Desk_remove.nd rfl (Or.inl rfl)) (fun _ _ _ _ _ => (pts_one (pt_cmpR op_ne (pv 4) (pv 1) (nomark _)))) (fun _ _ _ _ _ => (pv 4)) (fun _ _ _ _ _ => (pe_dget (hu_le hr) (pe_pr (pv 0) (T.cls "Desk" (by decide +kernel)) (T.pr _ mg_Desk_table) (ok_Desk_table T) (hr.mono (by decide))) (pv 4) (fun _ _ => rfl))))) (pa_cons (pe_pr (pv 0) (T.cls "Desk" (by decide +kernel)) (T.pr _ mg_Desk_claims) (ok_Desk_claims T) (hr.mono (by decide))) pa_nil))))))), ?_⟩
  obtain ⟨M, dk, bd, st, ms, nm, rfl, hM, hL, hD, hnd, hlen, hcl, q0, q1⟩ := h
  obtain ⟨dx, s, n, td, tc, p, pvs, h1, h2, h3, h4, h5, h6, h7⟩ := id hD
  have z2 := dl_le _ _ h2
  have z3 := dl_le _ _ h3
  have zS : DkS K H dk dx bd s n p td tc := ⟨h1, z2, z3⟩
  have zT := h4.mono dl_le
  have zC := h5.mono dl_le
  have lc : (csR st.cs).length = st.cs.length := by unfold csR; rw [List.length_map]
  walk_at "rd"
  refine ⟨dk, dx, bd, s, n, p, td, tc, rfl, zS, ?_⟩
  walk_at "rd"
  refine ⟨_, _, _, rfl, .inl zT.1, ?_⟩
  cases hu : hasT st.tb nm with
  | false =>
    have hdue : due ms st (.remove nm) = some (.unknown nm) := by
      show (if hasT st.tb nm = true then _ else _) = _
      rw [hu]
      rfl
    walk_at "rd"
    exact fun d hd => q1 _ hdue _ _ _ (same_new hd) ⟨rfl, d, rfl, upd_same⟩
  | true =>
    have hdue : due ms st (.remove nm) = (use nm 0 (cms st.cs)).map .inuse := by
      show (if hasT st.tb nm = true then _ else _) = _
      rw [hu]
      rfl
    walk_at "rd"
    refine ⟨dk, dx, bd, s, n, p, td, tc, rfl, zS, ?_⟩
    walk_at "rd"
    refine ⟨_, _, rfl, SqT.of zC.1, ?_⟩
    refine for_it (walk_enumT (xs := csR st.cs)) (fun i σ H1 => (∃ v2 v3 v4, σ = [some (.ref dk), some (.str (nmS nm)), v2, v3, v4]) ∧ Same H H1 ∧ use nm i (cms (st.cs.drop i)) = use nm 0 (cms st.cs))
      ⟨⟨_, _, _, rfl⟩, .refl _, rfl⟩ (fun _ _ H1 _ h => SqT.of (h.2.1 _ _ zC.1)) (fun i v σ H1 H2 hi h hy => ?_) fun σ H1 h => ?_
    · obtain ⟨⟨v2, v3, v4, rfl⟩, S1, f1⟩ := h
      obtain ⟨Tt, xx, yy, rfl, hT, rfl, e5, e6⟩ := hy
      have e5' := Option.some.inj e5
      subst e5'
      have hi' : i < st.cs.length := by omega
      have hci : st.cs[i]? = some st.cs[i] := List.getElem?_eq_getElem hi'
      have e6' : (csR st.cs)[i]? = some yy := e6
      unfold csR at e6'
      rw [List.getElem?_map, hci] at e6'
      obtain rfl := Option.some.inj e6'
      rw [use_drop nm hci] at f1
      have hcm := zC.2 _ (List.getElem_mem hi')
      generalize (st.cs[i] : Nat × Cm) = x at f1 hcm
      generalize e3 : upd H1 Tt _ = H2
      have S2 : Same H H2 := S1.trans (e3 ▸ same_new hT)
      have u2 : H2 Tt = _ := e3 ▸ upd_same
      have hcm2 := S2 _ _ hcm.1
      walk_at "rd"
      refine ⟨x.1, x.2, rfl, hcm2, fun p1 hp1 => ?_⟩
      generalize e4 : upd H2 p1 _ = H3
      have S3 : Same H H3 := S2.trans (e4 ▸ same_new hp1)
      have u3 : H3 p1 = some (.tup (nmL x.2.names)) := e4 ▸ upd_same
      walk_at "rd"
      refine ⟨flat_names _, ?_⟩
      have hin := inV_names nm x.2.names
      by_cases c : nm ∈ x.2.names
      · rw [if_pos c] at f1
        refine ⟨_, rfl, ?_⟩
        refine ite_t (by simpa [hin] using c) ?_
        walk_at "rd"
        exact fun d hd => q1 (.inuse i) (by rw [hdue, ← f1]; rfl) _ _ _ (S3.trans (same_new hd)) ⟨rfl, d, rfl, upd_same⟩
      · rw [if_neg c] at f1
        refine ⟨_, rfl, ?_⟩
        refine ite_f (by simpa [hin] using c) ?_
        walk_at "rd"
        exact ⟨⟨_, _, _, rfl⟩, S3, f1⟩
    · obtain ⟨⟨v2, v3, v4, rfl⟩, S1, f1⟩ := h
      rw [lc, List.drop_length] at f1
      rw [← f1] at hdue
      have h11 := S1 _ _ h1
      have zT1 := S1 _ _ zT.1
      have zC1 := S1 _ _ zC.1
      have zS1 : DkS K H1 dk dx bd s n p td tc := ⟨h11, S1 _ _ z2, S1 _ _ z3⟩
      walk_at "rd"
      refine ⟨td, _, zT1, trivial, fun od => ?_⟩
      generalize eL : upd H1 td _ = HL
      have uL : HL td = some (.frz od (.dK (tbK st.tb))) := eL ▸ upd_same
      have LL : ∀ {b : Addr} {o : HO}, b ≠ td → H1 b = some o → HL b = some o := fun {b o} nb e => by rw [← eL, upd_ne nb]; exact e
      have zSL : DkS K HL dk dx bd s n p td tc := ⟨LL (ne_of h11 zT1 (by simp)) h11, LL (ne_of zS1.2.1 zT1 (by simp)) zS1.2.1, LL (ne_of zS1.2.2 zT1 (by simp)) zS1.2.2⟩
      have hL1 := zSL.1
      walk_at "rd"
      refine ⟨dk, dx, bd, s, n, p, td, tc, rfl, zSL, ?_⟩
      refine ⟨_, od, rfl, .inl ⟨_, uL, ?_⟩⟩
      have lt : (tbK st.tb).length = st.tb.length := by unfold tbK; rw [List.length_map]
      have hD' := hD
      refine fun D hD => dc_it (walk_keys) (fun i H2 => Same HL H2 ∧ H2 D = some (.dK (tbK (dropT (st.tb.take i) nm)))) ⟨same_new hD, upd_same⟩ (fun _ _ _ h => h.1 _ _ uL) (fun i x H2 H3 hi h hy => ?_) fun H2 h => ?_
      · obtain ⟨S2, f2⟩ := h
        obtain ⟨rfl, k, v, hkv, rfl⟩ := hy
        have hi' : i < st.tb.length := by omega
        have hti : st.tb[i]? = some st.tb[i] := List.getElem?_eq_getElem hi'
        have hkv' : (tbK st.tb)[i]? = some (k, v) := hkv
        unfold tbK at hkv'
        rw [List.getElem?_map, hti] at hkv'
        obtain ⟨rfl, rfl⟩ := Prod.mk.inj (Option.some.inj hkv')
        have hmem := List.getElem_mem hi'
        have hnot : hasT (dropT (st.tb.take i) nm) st.tb[i].1 = false := by
          rw [Bool.eq_false_iff]
          intro z
          rw [hasT_iff] at z
          obtain ⟨q, hq, e⟩ := List.mem_map.mp z
          unfold dropT at hq
          have hq2 := (List.mem_filter.mp hq).1
          obtain ⟨j, hj, e2⟩ := List.mem_iff_getElem.mp hq2
          rw [List.length_take] at hj
          rw [List.getElem_take] at e2
          have hne := List.pairwise_iff_getElem.mp hnd j i (by rw [List.length_map]; omega) (by rw [List.length_map]; omega) (by omega)
          rw [List.getElem_map, List.getElem_map, e2] at hne
          exact hne e
        have htk : st.tb.take (i + 1) = st.tb.take i ++ [st.tb[i]] := by rw [List.take_add_one, hti]; rfl
        have hget := getT_mem hnd hmem
        generalize (st.tb[i] : Nm × (Nat × Pt)) = q at hnot htk hget
        have zS3 : DkS K H3 dk dx bd s n p td tc := ⟨S2 _ _ zSL.1, S2 _ _ zSL.2.1, S2 _ _ zSL.2.2⟩
        have h31 := zS3.1
        have u3 := S2 _ _ uL
        have hdr : dropT (st.tb.take (i + 1)) nm = if q.1 = nm then dropT (st.tb.take i) nm else dropT (st.tb.take i) nm ++ [q] := by
          rw [htk]
          unfold dropT
          rw [List.filter_append]
          by_cases c : q.1 = nm <;> simp [c]
        rw [hdr]
        walk_at "rd"
        by_cases c : q.1 = nm
        · rw [if_pos c]
          refine ite_f (by rw [c]; simp [kV]) ?_
          exact ⟨S2, f2⟩
        · rw [if_neg c]
          refine ite_t (by simp only [kV, V.str.injEq, nmS_inj]; simpa using c) ?_
          walk_at "rd"
          refine ⟨dk, dx, bd, s, n, p, td, tc, rfl, zS3, ?_⟩
          have g1 := dget_tb (.inr ⟨od, u3⟩) q.1
          rw [hget] at g1
          walk_at "rd"
          refine ⟨_, _, rfl, g1, ?_⟩
          refine ⟨_, .inr (nmS q.1), rfl, f2, ?_, fun b u e2 => ?_, ?_⟩
          · unfold tbK dropT
            rw [List.length_map, sizeLine_eq]
            have := List.length_filter_le (fun p => decide (p.1 ≠ nm)) (st.tb.take i)
            rw [List.length_take] at this
            have := names_two hnd
            omega
          · rw [upd_ne (ne_of_none e2 hD)]
            exact S2 _ _ e2
          · rw [upd_same]
            have : putT (dropT (st.tb.take i) nm) q.1 q.2 = dropT (st.tb.take i) nm ++ [q] := by
              unfold putT
              rw [hnot]
              rfl
            rw [← this, ← tbK_put]
      · obtain ⟨S2, f2⟩ := h
        rw [lt, List.take_length] at f2
        have DtD : D ≠ td := fun e => by
          rw [e, uL] at hD
          cases hD
        refine ⟨S2 _ _ uL, ?_⟩
        generalize eU : upd H2 td _ = U
        have uU : U td = some (.dK (tbK st.tb)) := eU ▸ upd_same
        have S3 : Same H1 U := fun b o e => by
          by_cases c : b = td
          · rw [c] at e ⊢
            rw [uU, ← e, zT1]
          · rw [← eU, upd_ne c]
            exact S2 _ _ (LL c e)
        have vD : U D = some (.dK (tbK (dropT st.tb nm))) := by rw [← eU, upd_ne DtD]; exact f2
        have S03 := S1.trans S3
        have DM : D ∉ M := fun z => by
          obtain ⟨o, e⟩ := hL D z
          rw [LL DtD (S1 _ _ e)] at hD
          cases hD
        have hU1 := S03 _ _ h1
        have zSU : DkS K U dk dx bd s n p td tc := ⟨hU1, S03 _ _ z2, S03 _ _ z3⟩
        have G : Same (dl M H) (dl M U) := K56.Same.dl S03
        walk_at "rd"
        refine ⟨dk, dx, bd, s, n, p, td, tc, rfl, zSU, ?_⟩
        walk_at "rd"
        refine ⟨M, dk, bd, st, dropT st.tb nm, st.cs, D, tc, rfl, hM, hL.same S03, hD'.same S03, ⟨dl_at DM vD, fun x hx => ?_⟩, h5.mono G, hlen, fun H5 f5 hd5 => q0 hdue H5 ((Fr.of S03).trans f5) hd5⟩
        exact (h4.mono G).2 x (List.mem_filter.mp hx).1
end
end K56
namespace K56
open PySem PySem.Spec PyProof.Rows L2
local macro_rules | `(tactic| walk_at "rd") => `(tactic| repeat (first | (refine ⟨_, rfl, ?_⟩) | (refine ⟨_, _, rfl, rfl, ?_⟩) | (refine ⟨rfl, ?_⟩) | (refine ⟨_, (by assumption : _ = some (HO.tup _)), ?_⟩) | (refine ⟨_, _, _, _, rfl, rfl, SqT.of (by assumption), rfl, ?_⟩) | (refine ⟨_, _, _, _, rfl, rfl, SqL.of (by assumption), rfl, ?_⟩) | (refine ⟨_, _, rfl, .inr (SqT.of (by assumption)), ?_⟩) | (refine ⟨_, _, rfl, .inl (SqL.of (by assumption)), ?_⟩) | (refine ⟨_, _, rfl, SqT.of (by assumption), rfl, ?_⟩) | (refine ⟨_, _, _, _, _, rfl, (by assumption : _ = some (HO.ins _ _ _)), Tx.cls (by assumption) _ (by decide +kernel), Tx.noat (by assumption) _ _ (by decide +kernel), rfl, ?_⟩) | (refine ⟨_, _, _, rfl, (by assumption : _ = some (HO.ins _ _ _)), _, _, rfl, (by assumption : ClAt _ _ _ _), ?_⟩) | (refine ⟨_, _, _, _, rfl, (by assumption : _ = some (HO.ins _ _ _)), Tx.cls (by assumption) _ (by decide +kernel), Tx.noat (by assumption) _ _ (by decide +kernel), Nat.le_of_ble_eq_true rfl, ?_⟩) | (refine ⟨_, _, rfl, SqT.of (by assumption), ?_⟩) | (refine ⟨_, _, rfl, SqL.of (by assumption), ?_⟩) | (refine ⟨_, _, rfl, ?_⟩) | (refine ⟨_, _, _, rfl, (by assumption : _ = some (HO.ins _ _ _)), ?_⟩) | (refine ⟨_, _, _, rfl, (by assumption : _ = some (HO.tup _)), ?_⟩) | (refine ⟨_, _, _, rfl, (by assumption : ClAt _ _ _ _), ?_⟩) | (refine ⟨_, _, _, _, _, rfl, (by assumption : ClAt _ _ _ _), (by assumption : _ = some (HO.tup _)), ?_⟩) | (refine ⟨.inl ⟨rfl, _, SqL.of (by assumption)⟩, ?_⟩) | (refine ⟨⟨_, SqL.of (by assumption)⟩, ?_⟩) | (refine ⟨⟨_, SqT.of (by assumption)⟩, ?_⟩) | (with_reducible refine ite_t ?kc ?kg; (case kc => simp; done)) | (with_reducible refine ite_f ?kc ?kg; (case kc => simp; done))))
local macro_rules | `(tactic| walk_at "sc") => `(tactic| exact ⟨rfl, rfl, rfl, by decide +kernel, rfl, by decide +kernel, by decide +kernel⟩)
section
variable {w : World} {K : PySem.W.Frag} {mg : Str → Option Value} {base : Heap}
def sp_Desk_setitem (K : PySem.W.Frag) : Sp := fun vs H Q E => ∃ (M : List Addr) (dk bd : Addr) (st : Sta) (lo hi : Int) (nm : Nm) (b : Addr) (c : Pt), vs = [.ref dk, .str (nmS nm), .ref b] ∧ dk ∈ M ∧ Lv M H ∧ DkAt K (dl M H) H dk bd st ∧ ClAt K (dl M H) b c ∧ Ok c ∧
  (∀ x ∈ st.cs, ∀ n ∈ x.2.names, hasT st.tb n = true) ∧ (st.tb.map (·.1)).Nodup ∧ BdAt H bd lo hi ∧ (-3 ≤ lo ∧ lo ≤ hi ∧ hi ≤ 3 ∧ hi - lo ≤ 2) ∧ st.past.length ≤ 100 ∧ st.cs.length ≤ 100 ∧ DeedQ K M dk bd (moves lo hi) st (.put nm b c) H Q E
theorem sc_Desk_setitem : FnScope ["self", "name", "clause", "table", "index", "claim", "fault"] ["self", "name", "clause"] (defScope s_Desk_setitem) := by walk_at "sc"
theorem ok_Desk_setitem (T : Tx w K mg) : Fn PG w K mg base 15 (me K "Desk" "__setitem__") (sp_Desk_setitem K) := by
  obtain ⟨fd, F⟩ := T.fn _ m_Desk_setitem
  refine fn_mk F (F.bindsN fun _ _ _ _ _ _ us hl => match us, hl with | [_, _, _], _ => rfl) sc_Desk_setitem (fun vs H Q E h => by obtain ⟨M, dk, bd, st, lo, hi, nm, b, c, rfl, hM, hL, hD, hb, ok, hn, hnd, hbd, hz, hlen, hcl, q0, q1⟩ := h; rfl) ?_
  intro cdv A outer s H vs Q E hr h
  refine ⟨_, (pss_cons (ps_if (pt_not (pt_val (pe_cl (ok_is_name T) (hr.mono (by decide)) (T.g "is_name") (T.kp _ m_is_name) (fun _ => pas0) (pa_cons (pv 1) pa_nil)))) (pss_one ps_never) pss_nil)
    (pss_cons (ps_expr (pe_cl (ok_check_clause T) (hr.mono (by decide)) (T.g "check_clause") (T.kp _ m_check_clause) (fun _ => pas0) (pa_cons (pv 2) pa_nil)))
    (pss_cons (ps_set (i := 3) sc_Desk_setitem.nd rfl (Or.inl rfl) (pe_dstar (pe_pr (pv 0) (T.cls "Desk" (by decide +kernel)) (T.pr _ mg_Desk_table) (ok_Desk_table T) (hr.mono (by decide))) (pv 1) (pv 2)))
    (pss_cons (ps_for (passes_of rfl) rfl (pi_enumT rfl (T.f "enumerate") (pa_cons (pe_pr (pv 0) (T.cls "Desk" (by decide +kernel)) (T.pr _ mg_Desk_claims) (ok_Desk_claims T) (hr.mono (by decide))) pa_nil)) (pg_tup rfl (pgs_cons (pg_name (i := 4) sc_Desk_setitem.nd rfl (Or.inl rfl)) (pgs_cons (pg_name (i := 5) sc_Desk_setitem.nd rfl (Or.inl rfl)) pgs_nil))) (pss_cons (ps_set (i := 6) sc_Desk_setitem.nd rfl (Or.inl rfl) (pe_ifExp (pt_cmpR op_in_seq (pv 1) (pe_cl (ok_names_of T) (hr.mono (by decide)) (T.g "names_of") (T.kp _ m_names_of) (fun _ => pas0) (pa_cons (pv 5) pa_nil)) rfl) (pe_cl (ok_fault_of T) (hr.mono (by decide)) (T.g "fault_of") (T.kp _ m_fault_of) (fun _ => pas0) (pa_cons (pv 3) (pa_cons (pe_fld (pv 0) rfl) (pa_cons (pv 5) pa_nil)))) (pe_tup pa_nil)))
    (pss_one (ps_if (pt_cmpR (op_neD (hu_le hr)) (pv 6) (pe_tup pa_nil) (nomark _)) (pss_one (ps_raise rfl (takes_of rfl rfl rfl rfl) (pmk_x2 T.x4 hr (pa_cons (pv 4) (pa_cons (pe_ix ix_tup (pv 6) pe_int (fun _ _ => rfl)) pa_nil)) rfl))) pss_nil))))
    (pss_one (ps_expr (pe_ml (pv 0) (T.cls "Desk" (by decide +kernel)) (T.meth "Desk" "become" (by decide +kernel)) (ok_Desk_become T) (hr.mono (by decide)) (fun _ => pas0) (pa_cons (pv 3) (pa_cons (pe_pr (pv 0) (T.cls "Desk" (by decide +kernel)) (T.pr _ mg_Desk_claims) (ok_Desk_claims T) (hr.mono (by decide))) pa_nil))))))))), ?_⟩
  obtain ⟨M, dk, bd, st, lo, hi, nm, b, c, rfl, hM, hL, hD, hb, ok, hn, hnd, hbd, hz, hlen, hcl, q0, q1⟩ := h
  obtain ⟨dx, s, n, td, tc, p, pvs, h1, h2, h3, h4, h5, h6, h7⟩ := id hD
  have z2 := dl_le _ _ h2
  have z3 := dl_le _ _ h3
  have zS : DkS K H dk dx bd s n p td tc := ⟨h1, z2, z3⟩
  have zT := h4.mono dl_le
  have zC := h5.mono dl_le
  have zb : ClAt K H b c := hb.mono dl_le
  have lc : (csR st.cs).length = st.cs.length := by unfold csR; rw [List.length_map]
  have hdue : due (moves lo hi) st (.put nm b c) = brk (putT st.tb nm (b, c)) (moves lo hi) nm 0 (cms st.cs) := rfl
  walk_at "rd"
  intro H1 S1
  have h11 := S1 _ _ h1
  have zS1 : DkS K H1 dk dx bd s n p td tc := ⟨h11, S1 _ _ z2, S1 _ _ z3⟩
  walk_at "rd"
  refine ⟨_, _, rfl, zb.mono S1, ?_⟩
  walk_at "rd"
  refine fun pt hpt => ?_
  generalize e2 : upd H1 pt _ = H2
  have S2 : Same H H2 := S1.trans (e2 ▸ same_new hpt)
  have u2 : H2 pt = some (.dK []) := e2 ▸ upd_same
  have h21 := S2 _ _ h1
  have zS2 : DkS K H2 dk dx bd s n p td tc := ⟨h21, S2 _ _ z2, S2 _ _ z3⟩
  walk_at "rd"
  refine ⟨dk, dx, bd, s, n, p, td, tc, rfl, zS2, ?_⟩
  have zT2 := S2 _ _ zT.1
  have hptd : td ≠ pt := ne_of_none (S1 _ _ zT.1) hpt
  have hkn : ((tbK st.tb).map (·.1)).Nodup := by
    unfold tbK
    rw [List.map_map]
    have : ((fun x : Key × V => x.1) ∘ fun p : Nm × (Nat × Pt) => ((.inr (nmS p.1) : Key), V.ref p.2.1)) = (fun n => (.inr (nmS n) : Key)) ∘ fun p => p.1 := rfl
    rw [this, ← List.map_map]
    exact List.pairwise_map.mpr (List.Pairwise.imp (fun hab e => hab (nmS_inj.mp (Sum.inr.inj e))) hnd)
  have lt : (tbK st.tb).length = st.tb.length := by unfold tbK; rw [List.length_map]
  refine ⟨u2, td, tbK st.tb, rfl, zT2, hptd, hkn, by have := names_two hnd; rw [sizeLine_eq]; omega, fun qt hqt => ?_⟩
  walk_at "rd"
  have npq : pt ≠ qt := ne_of_none u2 hqt
  refine ⟨by rw [upd_ne npq, upd_same], upd_same, .inr (nmS nm), rfl, ?_⟩
  generalize e5 : upd (upd (upd (upd H2 pt (.dK (tbK st.tb))) qt (.dK [])) qt _) pt _ = H5
  have S5 : Same H H5 := fun x o e => by
    have n1 : x ≠ pt := ne_of_none (S1 _ _ e) hpt
    have n2 : x ≠ qt := ne_of_none (S2 _ _ e) hqt
    rw [← e5, upd_ne n1, upd_ne n2, upd_ne n2, upd_ne n1]
    exact S2 _ _ e
  have v5 : H5 pt = some (.dK (tbK (putT st.tb nm (b, c)))) := by rw [← e5, upd_same, ← tbK_put]
  have ptM : pt ∉ M := (hL.same S1).out hpt
  have h51 := S5 _ _ h1
  have zS5 : DkS K H5 dk dx bd s n p td tc := ⟨h51, S5 _ _ z2, S5 _ _ z3⟩
  have hT5 : TbV K H5 (putT st.tb nm (b, c)) := fun x hx => by
    rcases mem_put hx with z | z
    · exact (zT.2.mono S5) x z
    · rw [z]
      exact ⟨zb.mono S5, ok⟩
  have hC5 := zC.mono S5
  have hbd5 := S5 _ _ hbd
  have hL5 := hL.same S5
  have G5 : Same (dl M H) (dl M H5) := K56.Same.dl S5
  clear e5
  walk_at "rd"
  refine ⟨dk, dx, bd, s, n, p, td, tc, rfl, zS5, ?_⟩
  refine ⟨_, _, rfl, SqT.of hC5.1, ?_⟩
  refine for_it (walk_enumT (xs := csR st.cs)) (fun i σ H6 => (∃ v4 v5 v6, σ = [some (.ref dk), some (.str (nmS nm)), some (.ref b), some (.ref pt), v4, v5, v6]) ∧ Same H5 H6 ∧ brk (putT st.tb nm (b, c)) (moves lo hi) nm i (cms (st.cs.drop i)) = brk (putT st.tb nm (b, c)) (moves lo hi) nm 0 (cms st.cs))
    ⟨⟨_, _, _, rfl⟩, .refl _, rfl⟩ (fun _ _ H6 _ h => SqT.of (h.2.1 _ _ hC5.1)) (fun i v σ H6 H7 hi' h hy => ?_) fun σ H6 h => ?_
  · obtain ⟨⟨v4, v5', v6, rfl⟩, S6, f6⟩ := h
    obtain ⟨Tt, xx, yy, rfl, hT, rfl, e5, e6⟩ := hy
    have e5' := Option.some.inj e5
    subst e5'
    have hi2 : i < st.cs.length := by omega
    have hci : st.cs[i]? = some st.cs[i] := List.getElem?_eq_getElem hi2
    have e6' : (csR st.cs)[i]? = some yy := e6
    unfold csR at e6'
    rw [List.getElem?_map, hci] at e6'
    obtain rfl := Option.some.inj e6'
    rw [brk_drop _ _ nm hci] at f6
    have hcm := hC5.2 _ (List.getElem_mem hi2)
    have hnx := hn _ (List.getElem_mem hi2)
    generalize (st.cs[i] : Nat × Cm) = x at f6 hcm hnx
    generalize e3 : upd H6 Tt _ = H7
    have S7 : Same H5 H7 := S6.trans (e3 ▸ same_new hT)
    have u7 : H7 Tt = _ := e3 ▸ upd_same
    have hcm7 := S7 _ _ hcm.1
    walk_at "rd"
    refine ⟨x.1, x.2, rfl, hcm7, fun p1 hp1 => ?_⟩
    generalize e4 : upd H7 p1 _ = H8
    have S8 : Same H5 H8 := S7.trans (e4 ▸ same_new hp1)
    have u8 : H8 p1 = some (.tup (nmL x.2.names)) := e4 ▸ upd_same
    have h81 := S8 _ _ h51
    walk_at "rd"
    refine ⟨flat_names _, ?_⟩
    have hin := inV_names nm x.2.names
    by_cases hc : nm ∈ x.2.names
    · rw [if_pos hc] at f6
      refine ⟨_, rfl, ?_⟩
      refine ite_t (by simpa [hin] using hc) ?_
      walk_at "rd"
      refine ⟨pt, bd, x.1, x.2, putT st.tb nm (b, c), lo, hi, rfl, .inl (S8 _ _ v5), hT5.mono S8, S8 _ _ hcm.1, fun n hn' => put_has (hnx n hn'), S8 _ _ hbd5, hz, fun H9 p9 S9 hp9 => ?_⟩
      walk_at "rd"
      refine ⟨by show 0 ≤ sizeLine; decide, fun p10 hp10 => ?_⟩
      generalize e10 : upd H9 p10 _ = H10
      have S10 : Same H9 H10 := e10 ▸ same_new hp10
      have u10 : H10 p10 = some (.tup []) := e10 ▸ upd_same
      have S510 := (S8.trans S9).trans S10
      have hp9' := hp9.mono S10
      refine ⟨_, _, dp_ft _ hp9', .tup (SqT.of u10) .nil, ft_shaped _, rfl, ?_⟩
      rw [ft_eqv]
      cases hf : faultC (putT st.tb nm (b, c)) (moves lo hi) x.2 with
      | none =>
        rw [hf] at f6
        walk_at "rd"
        exact ⟨⟨_, _, _, rfl⟩, S510, f6⟩
      | some f =>
        rw [hf] at f6 hp9'
        obtain ⟨v, hv, hpv⟩ := hp9'
        walk_at "rd"
        exact fun d hd => q1 (.broken i f) (by rw [hdue, ← f6]) _ _ _ ((S5.trans S510).trans (same_new hd)) ⟨rfl, d, v, rfl, upd_same, hv.mono (same_new hd)⟩
    · rw [if_neg hc] at f6
      refine ⟨_, rfl, ?_⟩
      refine ite_f (by simpa [hin] using hc) ?_
      walk_at "rd"
      refine ⟨by show 0 ≤ sizeLine; decide, fun p9 hp9 => ?_⟩
      generalize e9 : upd H8 p9 _ = H9
      have S9 : Same H8 H9 := e9 ▸ same_new hp9
      have u9 : H9 p9 = some (.tup []) := e9 ▸ upd_same
      walk_at "rd"
      refine ⟨by show 0 ≤ sizeLine; decide, fun p10 hp10 => ?_⟩
      generalize e10 : upd H9 p10 _ = H10
      have S10 : Same H9 H10 := e10 ▸ same_new hp10
      have u10 : H10 p10 = some (.tup []) := e10 ▸ upd_same
      have S510 := (S8.trans S9).trans S10
      refine ⟨.tuple [], .tuple [], .tup (SqT.of (S10 _ _ u9)) .nil, .tup (SqT.of u10) .nil, rfl, rfl, ?_⟩
      walk_at "rd"
      exact ⟨⟨_, _, _, rfl⟩, S510, f6⟩
  · obtain ⟨⟨v4, v5', v6, rfl⟩, S6, f6⟩ := h
    rw [lc, List.drop_length] at f6
    rw [← f6] at hdue
    have h61 := S6 _ _ h51
    have S06 := S5.trans S6
    have zS6 : DkS K H6 dk dx bd s n p td tc := ⟨h61, S06 _ _ z2, S06 _ _ z3⟩
    have G6 : Same (dl M H) (dl M H6) := K56.Same.dl S06
    walk_at "rd"
    refine ⟨dk, dx, bd, s, n, p, td, tc, rfl, zS6, ?_⟩
    walk_at "rd"
    refine ⟨M, dk, bd, st, putT st.tb nm (b, c), st.cs, pt, tc, rfl, hM, hL.same S06, hD.same S06, ⟨dl_at ptM (S6 _ _ v5), fun x hx => ?_⟩, h5.mono G6, hlen, fun H9 f9 hd9 => q0 hdue H9 ((Fr.of S06).trans f9) hd9⟩
    rcases mem_put hx with z | z
    · exact (h4.mono G6).2 x z
    · rw [z]
      exact ⟨hb.mono G6, ok⟩
end
end K56
namespace K56
open PySem PySem.Spec PyProof.Rows L2
local macro_rules | `(tactic| walk_at "rd") => `(tactic| repeat (first | (refine ⟨_, rfl, ?_⟩) | (refine ⟨_, _, rfl, rfl, ?_⟩) | (refine ⟨rfl, ?_⟩) | (refine ⟨_, (by assumption : _ = some (HO.tup _)), ?_⟩) | (refine ⟨_, _, _, _, rfl, rfl, SqT.of (by assumption), rfl, ?_⟩) | (refine ⟨_, _, _, _, rfl, rfl, SqL.of (by assumption), rfl, ?_⟩) | (refine ⟨_, _, rfl, .inr (SqT.of (by assumption)), ?_⟩) | (refine ⟨_, _, rfl, .inl (SqL.of (by assumption)), ?_⟩) | (refine ⟨_, _, rfl, SqT.of (by assumption), rfl, ?_⟩) | (refine ⟨_, _, _, _, _, rfl, (by assumption : _ = some (HO.ins _ _ _)), Tx.cls (by assumption) _ (by decide +kernel), Tx.noat (by assumption) _ _ (by decide +kernel), rfl, ?_⟩) | (refine ⟨_, _, _, rfl, (by assumption : _ = some (HO.ins _ _ _)), _, _, rfl, (by assumption : ClAt _ _ _ _), ?_⟩) | (refine ⟨_, _, _, _, rfl, (by assumption : _ = some (HO.ins _ _ _)), Tx.cls (by assumption) _ (by decide +kernel), Tx.noat (by assumption) _ _ (by decide +kernel), Nat.le_of_ble_eq_true rfl, ?_⟩) | (refine ⟨_, _, rfl, SqT.of (by assumption), ?_⟩) | (refine ⟨_, _, rfl, SqL.of (by assumption), ?_⟩) | (refine ⟨_, _, rfl, ?_⟩) | (refine ⟨_, _, _, rfl, (by assumption : _ = some (HO.ins _ _ _)), ?_⟩) | (refine ⟨_, _, _, rfl, (by assumption : _ = some (HO.tup _)), ?_⟩) | (refine ⟨_, _, _, rfl, (by assumption : ClAt _ _ _ _), ?_⟩) | (refine ⟨_, _, _, _, _, rfl, (by assumption : ClAt _ _ _ _), (by assumption : _ = some (HO.tup _)), ?_⟩) | (refine ⟨.inl ⟨rfl, _, SqL.of (by assumption)⟩, ?_⟩) | (refine ⟨⟨_, SqL.of (by assumption)⟩, ?_⟩) | (refine ⟨⟨_, SqT.of (by assumption)⟩, ?_⟩) | (with_reducible refine ite_t ?kc ?kg; (case kc => simp; done)) | (with_reducible refine ite_f ?kc ?kg; (case kc => simp; done))))
local macro_rules | `(tactic| walk_at "sc") => `(tactic| exact ⟨rfl, rfl, rfl, by decide +kernel, rfl, by decide +kernel, by decide +kernel⟩)
section
variable {w : World} {K : PySem.W.Frag} {mg : Str → Option Value} {base : Heap}
/-- the cup at c -/
def CupAt (H : Hp) (c : Addr) : Prop := ∃ u m k : Int, H c = some (.lst [.int u, .int m, .int k])
def sp_law_sip : Sp := fun vs H Q _ => ∃ (c : Addr) (top : Int), vs = [.ref c, .int top] ∧ CupAt H c ∧ 0 < top ∧ top < 1000 ∧ ∀ H' r, Fr c H H' → CupAt H' c → 0 ≤ r → r < top → Q (.int r) H'
theorem sc_law_sip : FnScope ["_law_cup_here", "_law_top", "_law_digit"] ["_law_cup_here", "_law_top"] (defScope s_law_sip) := by walk_at "sc"
theorem ok_law_sip (T : Tx w K mg) : Fn PG w K mg base 1 (ga K "_law_sip") sp_law_sip := by
  obtain ⟨fd, F⟩ := T.fn _ m_law_sip
  refine fn_mk F (F.bindsN fun _ _ _ _ _ _ us hl => match us, hl with | [_, _], _ => rfl) sc_law_sip (fun vs H Q E h => by obtain ⟨c, top, rfl, ⟨u, m, k, hc⟩, ht, ht2, q⟩ := h; rfl) ?_
  intro cdv A outer s H vs Q E hr h
  refine ⟨_, PSs.nox (pss_cons (ps_asg (pe_op op_add (pe_ix ix_list (pv 0) pe_int (fun _ _ => rfl)) pe_int) (pg_sub (pv 0) pe_int set_list))
    (pss_cons (ps_if (pt_cmpR op_gt (pe_ix ix_list (pv 0) pe_int (fun _ _ => rfl)) pe_int (nomark _)) (pss_cons (ps_asg (pe_callB call_divmod rfl (T.f "divmod") (by decide +kernel) (pa_cons (pe_ix ix_list (pv 0) pe_int (fun _ _ => rfl)) (pa_cons (pv 1) pa_nil))) (pg_tup rfl (pgs_cons (pg_sub (pv 0) pe_int set_list) (pgs_cons (pg_name (i := 2) sc_law_sip.nd rfl (Or.inl rfl)) pgs_nil))))
    (pss_one (ps_ret (pv 2)))) pss_nil)
    (pss_cons (ps_asg (pe_op op_modN (pe_callTy call_int1 rfl (T.f "int") (by decide +kernel) (pa_cons (pe_op op_add (pe_op op_mul (pe_ix ix_list (pv 0) pe_int (fun _ _ => rfl)) pe_int) (pe_op op_mul pe_int (pe_ix ix_list (pv 0) pe_int (fun _ _ => rfl)))) pa_nil)) pe_int) (pg_sub (pv 0) pe_int set_list))
    (pss_one (ps_ret (pe_op op_modN (pe_callTy call_int1 rfl (T.f "int") (by decide +kernel) (pa_cons (pe_op op_fdivN (pe_ix ix_list (pv 0) pe_int (fun _ _ => rfl)) pe_int) pa_nil)) (pv 1))))))), ?_⟩
  obtain ⟨c, top, rfl, ⟨u, m, k, hc⟩, ht, ht2, q⟩ := h
  walk_at "rd"
  refine ⟨_, _, _, _, rfl, rfl, hc, rfl, ?_⟩
  generalize e1 : upd H c _ = H1
  have u1 : H1 c = some (.lst [.int u, .int m, .int (k + 1)]) := e1 ▸ upd_same
  have f1 : Fr c H H1 := e1 ▸ Fr.upd
  walk_at "rd"
  refine ite_d (fun cu => ?_) (fun cu => ?_)
  · walk_at "rd"
    refine ⟨⟨ht, by omega⟩, fun p hp => ?_⟩
    generalize e2 : upd H1 p _ = H2
    have S2 : Same H1 H2 := e2 ▸ same_new hp
    have u2 : H2 p = some (.tup [.int (u / top), .int (u % top)]) := e2 ▸ upd_same
    have c2 := S2 _ _ u1
    walk_at "rd"
    refine ⟨_, _, _, _, rfl, rfl, c2, rfl, ?_⟩
    generalize e3 : upd H2 c _ = H3
    have u3 : H3 c = some (.lst [.int (u / top), .int m, .int (k + 1)]) := e3 ▸ upd_same
    have f3 : Fr c H2 H3 := e3 ▸ Fr.upd
    walk_at "rd"
    exact q _ _ ((f1.trans (Fr.of S2)).trans f3) ⟨_, _, _, u3⟩ (Int.emod_nonneg _ (by omega)) (Int.emod_lt_of_pos _ ht)
  · walk_at "rd"
    refine ⟨.inr (by decide), ?_⟩
    walk_at "rd"
    refine ⟨.inl (by decide), ?_⟩
    walk_at "rd"
    refine .inl ⟨_, rfl, ?_⟩
    walk_at "rd"
    refine ⟨show (2147483477 : Int) ≠ 0 by decide, ?_⟩
    walk_at "rd"
    refine ⟨_, _, _, _, rfl, rfl, u1, rfl, ?_⟩
    generalize e3 : upd H1 c _ = H3
    have f3 : Fr c H1 H3 := e3 ▸ Fr.upd
    have u3 : ∃ z : Int, H3 c = some (.lst [.int u, .int z, .int (k + 1)]) := ⟨_, e3 ▸ upd_same⟩
    obtain ⟨z, u3⟩ := u3
    clear e3
    walk_at "rd"
    refine ⟨⟨by decide, by decide⟩, ?_⟩
    refine .inl ⟨_, rfl, ?_⟩
    walk_at "rd"
    refine ⟨by omega, ?_⟩
    exact q _ _ (f1.trans f3) ⟨_, _, _, u3⟩ (Int.fmod_nonneg_of_pos _ ht) (Int.fmod_lt_of_pos _ ht)
end
end K56
namespace K56
open PySem PySem.Spec PyProof.Rows L2
local macro_rules | `(tactic| walk_at "rd") => `(tactic| repeat (first | (refine ⟨_, rfl, ?_⟩) | (refine ⟨_, _, rfl, rfl, ?_⟩) | (refine ⟨rfl, ?_⟩) | (refine ⟨_, (by assumption : _ = some (HO.tup _)), ?_⟩) | (refine ⟨_, _, _, _, rfl, rfl, SqT.of (by assumption), rfl, ?_⟩) | (refine ⟨_, _, _, _, rfl, rfl, SqL.of (by assumption), rfl, ?_⟩) | (refine ⟨_, _, rfl, .inr (SqT.of (by assumption)), ?_⟩) | (refine ⟨_, _, rfl, .inl (SqL.of (by assumption)), ?_⟩) | (refine ⟨_, _, rfl, SqT.of (by assumption), rfl, ?_⟩) | (refine ⟨_, _, _, _, _, rfl, (by assumption : _ = some (HO.ins _ _ _)), Tx.cls (by assumption) _ (by decide +kernel), Tx.noat (by assumption) _ _ (by decide +kernel), rfl, ?_⟩) | (refine ⟨_, _, _, rfl, (by assumption : _ = some (HO.ins _ _ _)), _, _, rfl, (by assumption : ClAt _ _ _ _), ?_⟩) | (refine ⟨_, _, _, _, rfl, (by assumption : _ = some (HO.ins _ _ _)), Tx.cls (by assumption) _ (by decide +kernel), Tx.noat (by assumption) _ _ (by decide +kernel), Nat.le_of_ble_eq_true rfl, ?_⟩) | (refine ⟨_, _, rfl, SqT.of (by assumption), ?_⟩) | (refine ⟨_, _, rfl, SqL.of (by assumption), ?_⟩) | (refine ⟨_, _, rfl, ?_⟩) | (refine ⟨_, _, _, rfl, (by assumption : _ = some (HO.ins _ _ _)), ?_⟩) | (refine ⟨_, _, _, rfl, (by assumption : _ = some (HO.tup _)), ?_⟩) | (refine ⟨_, _, _, rfl, (by assumption : ClAt _ _ _ _), ?_⟩) | (refine ⟨_, _, _, _, _, rfl, (by assumption : ClAt _ _ _ _), (by assumption : _ = some (HO.tup _)), ?_⟩) | (refine ⟨.inl ⟨rfl, _, SqL.of (by assumption)⟩, ?_⟩) | (refine ⟨⟨_, SqL.of (by assumption)⟩, ?_⟩) | (refine ⟨⟨_, SqT.of (by assumption)⟩, ?_⟩) | (with_reducible refine ite_t ?kc ?kg; (case kc => simp; done)) | (with_reducible refine ite_f ?kc ?kg; (case kc => simp; done))))
local macro_rules | `(tactic| walk_at "sc") => `(tactic| exact ⟨rfl, rfl, rfl, by decide +kernel, rfl, by decide +kernel, by decide +kernel⟩)
theorem at_int {l : List Int} {r : Int} (h0 : 0 ≤ r) (h1 : r < l.length) : ∃ e ∈ l, atI (l.map V.int) r = some (.int e) := by
  obtain ⟨k, rfl⟩ := Int.eq_ofNat_of_zero_le h0
  have hk : k < l.length := by omega
  exact ⟨l[k], List.getElem_mem hk, atI_nat (by rw [List.getElem?_map, List.getElem?_eq_getElem hk]; rfl)⟩
theorem at_ov {l : List OI} {r : Int} (h0 : 0 ≤ r) (h1 : r < l.length) : ∃ e ∈ l, atI (l.map ov) r = some (ov e) := by
  obtain ⟨k, rfl⟩ := Int.eq_ofNat_of_zero_le h0
  have hk : k < l.length := by omega
  exact ⟨l[k], List.getElem_mem hk, atI_nat (by rw [List.getElem?_map, List.getElem?_eq_getElem hk]; rfl)⟩
theorem CupAt.mono {H H' : Hp} (e : Same H H') {c : Addr} (h : CupAt H c) : CupAt H' c := by
  obtain ⟨u, m, k, h⟩ := h
  exact ⟨u, m, k, e _ _ h⟩
theorem CupAt.ne {H : Hp} {c p : Addr} (h : CupAt H c) (hp : H p = none) : p ≠ c := by
  obtain ⟨u, m, k, h⟩ := h
  exact Ne.symm (ne_of_none h hp)
section
variable {w : World} {K : PySem.W.Frag} {mg : Str → Option Value} {base : Heap}
def sp_law_band : Sp := fun vs H Q _ => ∃ (c : Addr), vs = [.ref c] ∧ CupAt H c ∧ ∀ H' b lo hi, Fr c H H' → CupAt H' c → BdAt H' b lo hi → (-3 ≤ lo ∧ lo ≤ hi ∧ hi ≤ 3 ∧ hi - lo ≤ 2) → Q (.ref b) H'
theorem sc_law_band : FnScope ["_law_cup_here", "_law_low"] ["_law_cup_here"] (defScope s_law_band) := by walk_at "sc"
theorem ok_law_band (T : Tx w K mg) : Fn PG w K mg base 2 (ga K "_law_band") sp_law_band := by
  obtain ⟨fd, F⟩ := T.fn _ m_law_band
  refine fn_mk F (F.bindsN fun _ _ _ _ _ _ us hl => match us, hl with | [_], _ => rfl) sc_law_band (fun vs H Q E h => by obtain ⟨c, rfl, hc, q⟩ := h; rfl) ?_
  intro cdv A outer s H vs Q E hr h
  refine ⟨_, PSs.nox (pss_cons (ps_set (i := 1) sc_law_band.nd rfl (Or.inl rfl) (pe_op op_sub (pe_cl (ok_law_sip T) (hr.mono (by decide)) (T.g "_law_sip") (T.kp _ m_law_sip) (fun _ => pas0) (pa_cons (pv 0) (pa_cons pe_int pa_nil))) pe_int))
    (pss_one (ps_ret (pe_tup (pa_cons (pv 1) (pa_cons (pe_callB (call_min2 rfl) rfl (T.f "min") (by decide +kernel) (pa_cons pe_int (pa_cons (pe_op op_add (pe_op op_add (pv 1) pe_int) (pe_cl (ok_law_sip T) (hr.mono (by decide)) (T.g "_law_sip") (T.kp _ m_law_sip) (fun _ => pas0) (pa_cons (pv 0) (pa_cons pe_int pa_nil)))) pa_nil))) pa_nil)))))), ?_⟩
  obtain ⟨c, rfl, hc, q⟩ := h
  walk_at "rd"
  refine ⟨hc, by decide, by decide, fun H1 r1 f1 c1 g1 l1 => ?_⟩
  walk_at "rd"
  refine ⟨c1, by decide, by decide, fun H2 r2 f2 c2 g2 l2 => ?_⟩
  walk_at "rd"
  refine ⟨by show 2 ≤ sizeLine; decide, fun p hp => q _ p (r1 - 2) (if r1 - 2 + 1 + r2 < 3 then r1 - 2 + 1 + r2 else 3) ((f1.trans f2).trans (Fr.of (same_new hp))) (c2.mono (same_new hp)) upd_same ?_⟩
  split <;> omega
/-- a drawn sketch: what Clause asks but for the first two -/
structure SkR (B : Int) (p : Pt) : Prop where
  r : 0 ≤ p.rate ∧ p.rate ≤ 5
  l : ∀ f, p.low = some f → -2 ≤ f ∧ f ≤ 1
  t : ∀ t, p.top = some t → -2 ≤ t ∧ t ≤ B
  lt : ∀ f t, p.low = some f → p.top = some t → f ≤ t
  k : 0 ≤ p.keep ∧ p.keep ≤ 3
  kt : p.top = none → p.keep = 0
  p : -9 ≤ p.plus ∧ p.plus ≤ 9
def sp_law_sketch : Sp := fun vs H Q _ => ∃ (c : Addr), vs = [.ref c] ∧ CupAt H c ∧ ∀ H' b p, Fr c H H' → CupAt H' c → H' b = some (.tup (ptV p)) → SkR 5 p → Q (.ref b) H'
theorem sc_law_sketch : FnScope ["_law_cup_here", "_law_every", "_law_low", "_law_top", "_law_keep"] ["_law_cup_here"] (defScope s_law_sketch) := by walk_at "sc"
theorem ok_law_sketch (T : Tx w K mg) : Fn PG w K mg base 2 (ga K "_law_sketch") sp_law_sketch := by
  obtain ⟨fd, F⟩ := T.fn _ m_law_sketch
  refine fn_mk F (F.bindsN fun _ _ _ _ _ _ us hl => match us, hl with | [_], _ => rfl) sc_law_sketch (fun vs H Q E h => by obtain ⟨c, rfl, hc, q⟩ := h; rfl) ?_
  intro cdv A outer s H vs Q E hr h
  refine ⟨_, PSs.nox (pss_cons (ps_set (i := 1) sc_law_sketch.nd rfl (Or.inl rfl) (pe_ix ix_list (pe_lst (pa_cons pe_int (pa_cons pe_int (pa_cons pe_int (pa_cons pe_int (pa_cons pe_int (pa_cons pe_int pa_nil))))))) (pe_cl (ok_law_sip T) (hr.mono (by decide)) (T.g "_law_sip") (T.kp _ m_law_sip) (fun _ => pas0) (pa_cons (pv 0) (pa_cons pe_int pa_nil))) (fun _ _ => rfl)))
    (pss_cons (ps_set (i := 2) sc_law_sketch.nd rfl (Or.inl rfl) (pe_ix ix_list (pe_lst (pa_cons pe_non (pa_cons pe_non (pa_cons pe_int (pa_cons pe_int (pa_cons (pe_un un_neg pe_int) (pa_cons (pe_un un_neg pe_int) (pa_cons pe_int pa_nil)))))))) (pe_cl (ok_law_sip T) (hr.mono (by decide)) (T.g "_law_sip") (T.kp _ m_law_sip) (fun _ => pas0) (pa_cons (pv 0) (pa_cons pe_int pa_nil))) (fun _ _ => rfl)))
    (pss_cons (ps_set (i := 3) sc_law_sketch.nd rfl (Or.inl rfl) (pe_ifExp (pt_cmpR op_eq (pe_cl (ok_law_sip T) (hr.mono (by decide)) (T.g "_law_sip") (T.kp _ m_law_sip) (fun _ => pas0) (pa_cons (pv 0) (pa_cons pe_int pa_nil))) pe_int (nomark _)) pe_non (pe_op op_add (pe_ifExp (pt_cmpR op_isN (pv 2) pe_non (nomark _)) pe_int (pv 2)) (pe_cl (ok_law_sip T) (hr.mono (by decide)) (T.g "_law_sip") (T.kp _ m_law_sip) (fun _ => pas0) (pa_cons (pv 0) (pa_cons pe_int pa_nil))))))
    (pss_cons (ps_set (i := 4) sc_law_sketch.nd rfl (Or.inl rfl) (pe_ifExp (pt_cmpR op_isN (pv 3) pe_non (nomark _)) pe_int (pe_ix ix_list (pe_lst (pa_cons pe_int (pa_cons pe_int (pa_cons pe_int (pa_cons pe_int (pa_cons pe_int pa_nil)))))) (pe_cl (ok_law_sip T) (hr.mono (by decide)) (T.g "_law_sip") (T.kp _ m_law_sip) (fun _ => pas0) (pa_cons (pv 0) (pa_cons pe_int pa_nil))) (fun _ _ => rfl))))
    (pss_one (ps_ret (pe_tup (pa_cons (pv 1) (pa_cons (pe_op op_add pe_int (pe_cl (ok_law_sip T) (hr.mono (by decide)) (T.g "_law_sip") (T.kp _ m_law_sip) (fun _ => pas0) (pa_cons (pv 0) (pa_cons (pv 1) pa_nil)))) (pa_cons (pe_cl (ok_law_sip T) (hr.mono (by decide)) (T.g "_law_sip") (T.kp _ m_law_sip) (fun _ => pas0) (pa_cons (pv 0) (pa_cons pe_int pa_nil))) (pa_cons (pv 2) (pa_cons (pv 3) (pa_cons (pv 4) (pa_cons (pe_ix ix_list (pe_lst (pa_cons pe_int (pa_cons pe_int (pa_cons pe_int (pa_cons pe_int (pa_cons (pe_un un_neg pe_int) pa_nil)))))) (pe_cl (ok_law_sip T) (hr.mono (by decide)) (T.g "_law_sip") (T.kp _ m_law_sip) (fun _ => pas0) (pa_cons (pv 0) (pa_cons pe_int pa_nil))) (fun _ _ => rfl)) pa_nil)))))))))))))), ?_⟩
  obtain ⟨c, rfl, hc, q⟩ := h
  walk_at "rd"
  refine ⟨by show 6 ≤ sizeLine; decide, fun p1 hp1 => ?_⟩
  generalize e1 : upd H p1 _ = H1
  have S1 : Same H H1 := e1 ▸ same_new hp1
  have u1 : H1 p1 = some (.lst ([1, 1, 1, 2, 2, 3].map V.int)) := e1 ▸ upd_same
  walk_at "rd"
  refine ⟨hc.mono S1, by decide, by decide, fun H2 r2 f2 c2 g2 l2 => ?_⟩
  obtain ⟨ev, hev, a1⟩ := at_int (l := [1, 1, 1, 2, 2, 3]) g2 l2
  have hev : 1 ≤ ev ∧ ev ≤ 3 := by simp only [List.mem_cons, List.not_mem_nil, or_false] at hev; omega
  have w1 := SqL.of (K := K) (f2 _ _ (hc.ne hp1) u1)
  refine ⟨_, _, _, _, rfl, rfl, w1, a1, ?_⟩
  have F2 : Fr c H H2 := (Fr.of S1).trans f2
  walk_at "rd"
  refine ⟨by show 7 ≤ sizeLine; decide, fun p3 hp3 => ?_⟩
  generalize e3 : upd H2 p3 _ = H3
  have S3 : Same H2 H3 := e3 ▸ same_new hp3
  have u3 : H3 p3 = some (.lst (([none, none, some 0, some 0, some (-1), some (-2), some 1] : List OI).map ov)) := e3 ▸ upd_same
  walk_at "rd"
  refine ⟨c2.mono S3, by decide, by decide, fun H4 r4 f4 c4 g4 l4 => ?_⟩
  obtain ⟨low, hlow, a3⟩ := at_ov (l := [none, none, some 0, some 0, some (-1), some (-2), some 1]) g4 l4
  have hlow : ∀ f, low = some f → -2 ≤ f ∧ f ≤ 1 := fun f e => by
    subst e
    simp only [List.mem_cons, List.not_mem_nil, or_false, Option.some.injEq, reduceCtorEq, false_or] at hlow
    omega
  have w3 := SqL.of (K := K) (f4 _ _ (c2.ne hp3) u3)
  refine ⟨_, _, _, _, rfl, rfl, w3, a3, ?_⟩
  have F4 : Fr c H H4 := (F2.trans (Fr.of S3)).trans f4
  walk_at "rd"
  refine ⟨c4, by decide, by decide, fun H5 r5 f5 c5 g5 l5 => ?_⟩
  have F5 : Fr c H H5 := F4.trans f5
  clear w1 w3 a1 a3 u1 u3
  walk_at "rd"
  by_cases z : r5 = 0
  · refine ite_t (by rw [z]; rfl) ?_
    walk_at "rd"
    refine ⟨c5, by omega, by omega, fun H8 r8 f8 c8 g8 l8 => ?_⟩
    walk_at "rd"
    refine ⟨c8, by decide, by decide, fun H9 r9 f9 c9 g9 l9 => ?_⟩
    walk_at "rd"
    refine ⟨by show 5 ≤ sizeLine; decide, fun p10 hp10 => ?_⟩
    generalize e10 : upd H9 p10 _ = H10
    have S10 : Same H9 H10 := e10 ▸ same_new hp10
    have u10 : H10 p10 = some (.lst ([0, 0, 0, 1, -1].map V.int)) := e10 ▸ upd_same
    walk_at "rd"
    refine ⟨c9.mono S10, by decide, by decide, fun H11 r11 f11 c11 g11 l11 => ?_⟩
    obtain ⟨pl, hpl, a11⟩ := at_int (l := [0, 0, 0, 1, -1]) g11 l11
    have hpl : -9 ≤ pl ∧ pl ≤ 9 := by simp only [List.mem_cons, List.not_mem_nil, or_false] at hpl; omega
    have w11 := SqL.of (K := K) (f11 _ _ (c9.ne hp10) u10)
    refine ⟨_, _, _, _, rfl, rfl, w11, a11, ?_⟩
    walk_at "rd"
    refine ⟨by show 7 ≤ sizeLine; decide, fun p12 hp12 => ?_⟩
    exact q _ p12 ⟨ev, 1 + r8, r9, low, none, 0, pl⟩ ((((((F5).trans f8).trans f9).trans (Fr.of S10)).trans f11).trans (Fr.of (same_new hp12))) (c11.mono (same_new hp12)) upd_same ⟨⟨g9, by show r9 ≤ 5; omega⟩, hlow, (fun t e => by cases e), (fun f t _ e => by cases e), ⟨Int.le_refl 0, (by decide : (0 : Int) ≤ 3)⟩, (fun _ => rfl), hpl⟩
  · refine ite_f (by simp [z]) ?_
    cases low with
    | none =>
      walk_at "rd"
      refine ⟨c5, by decide, by decide, fun H6 r6 f6 c6 g6 l6 => ?_⟩
      walk_at "rd"
      refine ⟨by show 5 ≤ sizeLine; decide, fun p7 hp7 => ?_⟩
      generalize e7 : upd H6 p7 _ = H7
      have S7 : Same H6 H7 := e7 ▸ same_new hp7
      have u7 : H7 p7 = some (.lst ([0, 0, 1, 2, 3].map V.int)) := e7 ▸ upd_same
      walk_at "rd"
      refine ⟨c6.mono S7, by decide, by decide, fun H7b r7 f7 c7 g7 l7 => ?_⟩
      obtain ⟨kp, hkp, a7⟩ := at_int (l := [0, 0, 1, 2, 3]) g7 l7
      have hkp : 0 ≤ kp ∧ kp ≤ 3 := by simp only [List.mem_cons, List.not_mem_nil, or_false] at hkp; omega
      have w7 := SqL.of (K := K) (f7 _ _ (c6.ne hp7) u7)
      refine ⟨_, _, _, _, rfl, rfl, w7, a7, ?_⟩
      clear w7 a7 u7
      walk_at "rd"
      refine ⟨c7, by omega, by omega, fun H8 r8 f8 c8 g8 l8 => ?_⟩
      walk_at "rd"
      refine ⟨c8, by decide, by decide, fun H9 r9 f9 c9 g9 l9 => ?_⟩
      walk_at "rd"
      refine ⟨by show 5 ≤ sizeLine; decide, fun p10 hp10 => ?_⟩
      generalize e10 : upd H9 p10 _ = H10
      have S10 : Same H9 H10 := e10 ▸ same_new hp10
      have u10 : H10 p10 = some (.lst ([0, 0, 0, 1, -1].map V.int)) := e10 ▸ upd_same
      walk_at "rd"
      refine ⟨c9.mono S10, by decide, by decide, fun H11 r11 f11 c11 g11 l11 => ?_⟩
      obtain ⟨pl, hpl, a11⟩ := at_int (l := [0, 0, 0, 1, -1]) g11 l11
      have hpl : -9 ≤ pl ∧ pl ≤ 9 := by simp only [List.mem_cons, List.not_mem_nil, or_false] at hpl; omega
      have w11 := SqL.of (K := K) (f11 _ _ (c9.ne hp10) u10)
      refine ⟨_, _, _, _, rfl, rfl, w11, a11, ?_⟩
      walk_at "rd"
      refine ⟨by show 7 ≤ sizeLine; decide, fun p12 hp12 => ?_⟩
      exact q _ p12 ⟨ev, 1 + r8, r9, none, (some (0 + r6)), kp, pl⟩ ((((((((F5.trans f6).trans (Fr.of S7)).trans f7).trans f8).trans f9).trans (Fr.of S10)).trans f11).trans (Fr.of (same_new hp12))) (c11.mono (same_new hp12)) upd_same ⟨⟨g9, by show r9 ≤ 5; omega⟩, hlow, (fun t e => by cases e; omega), (fun f t e _ => by cases e), hkp, (fun e => by cases e), hpl⟩
    | some lw =>
      have hlw := hlow lw rfl
      walk_at "rd"
      refine ⟨c5, by decide, by decide, fun H6 r6 f6 c6 g6 l6 => ?_⟩
      walk_at "rd"
      refine ⟨by show 5 ≤ sizeLine; decide, fun p7 hp7 => ?_⟩
      generalize e7 : upd H6 p7 _ = H7
      have S7 : Same H6 H7 := e7 ▸ same_new hp7
      have u7 : H7 p7 = some (.lst ([0, 0, 1, 2, 3].map V.int)) := e7 ▸ upd_same
      walk_at "rd"
      refine ⟨c6.mono S7, by decide, by decide, fun H7b r7 f7 c7 g7 l7 => ?_⟩
      obtain ⟨kp, hkp, a7⟩ := at_int (l := [0, 0, 1, 2, 3]) g7 l7
      have hkp : 0 ≤ kp ∧ kp ≤ 3 := by simp only [List.mem_cons, List.not_mem_nil, or_false] at hkp; omega
      have w7 := SqL.of (K := K) (f7 _ _ (c6.ne hp7) u7)
      refine ⟨_, _, _, _, rfl, rfl, w7, a7, ?_⟩
      clear w7 a7 u7
      walk_at "rd"
      refine ⟨c7, by omega, by omega, fun H8 r8 f8 c8 g8 l8 => ?_⟩
      walk_at "rd"
      refine ⟨c8, by decide, by decide, fun H9 r9 f9 c9 g9 l9 => ?_⟩
      walk_at "rd"
      refine ⟨by show 5 ≤ sizeLine; decide, fun p10 hp10 => ?_⟩
      generalize e10 : upd H9 p10 _ = H10
      have S10 : Same H9 H10 := e10 ▸ same_new hp10
      have u10 : H10 p10 = some (.lst ([0, 0, 0, 1, -1].map V.int)) := e10 ▸ upd_same
      walk_at "rd"
      refine ⟨c9.mono S10, by decide, by decide, fun H11 r11 f11 c11 g11 l11 => ?_⟩
      obtain ⟨pl, hpl, a11⟩ := at_int (l := [0, 0, 0, 1, -1]) g11 l11
      have hpl : -9 ≤ pl ∧ pl ≤ 9 := by simp only [List.mem_cons, List.not_mem_nil, or_false] at hpl; omega
      have w11 := SqL.of (K := K) (f11 _ _ (c9.ne hp10) u10)
      refine ⟨_, _, _, _, rfl, rfl, w11, a11, ?_⟩
      walk_at "rd"
      refine ⟨by show 7 ≤ sizeLine; decide, fun p12 hp12 => ?_⟩
      exact q _ p12 ⟨ev, 1 + r8, r9, (some lw), (some (lw + r6)), kp, pl⟩ ((((((((F5.trans f6).trans (Fr.of S7)).trans f7).trans f8).trans f9).trans (Fr.of S10)).trans f11).trans (Fr.of (same_new hp12))) (c11.mono (same_new hp12)) upd_same ⟨⟨g9, by show r9 ≤ 5; omega⟩, hlow, (fun t e => by cases e; omega), (fun f t e1 e2 => by cases e1; cases e2; omega), hkp, (fun e => by cases e), hpl⟩
end
end K56
namespace K56
open PySem PySem.Spec PyProof.Rows L2
local macro_rules | `(tactic| walk_at "rd") => `(tactic| repeat (first | (refine ⟨_, rfl, ?_⟩) | (refine ⟨_, _, rfl, rfl, ?_⟩) | (refine ⟨rfl, ?_⟩) | (refine ⟨_, (by assumption : _ = some (HO.tup _)), ?_⟩) | (refine ⟨_, _, _, _, rfl, rfl, SqT.of (by assumption), rfl, ?_⟩) | (refine ⟨_, _, _, _, rfl, rfl, SqL.of (by assumption), rfl, ?_⟩) | (refine ⟨_, _, rfl, .inr (SqT.of (by assumption)), ?_⟩) | (refine ⟨_, _, rfl, .inl (SqL.of (by assumption)), ?_⟩) | (refine ⟨_, _, rfl, SqT.of (by assumption), rfl, ?_⟩) | (refine ⟨_, _, _, _, _, rfl, (by assumption : _ = some (HO.ins _ _ _)), Tx.cls (by assumption) _ (by decide +kernel), Tx.noat (by assumption) _ _ (by decide +kernel), rfl, ?_⟩) | (refine ⟨_, _, _, rfl, (by assumption : _ = some (HO.ins _ _ _)), _, _, rfl, (by assumption : ClAt _ _ _ _), ?_⟩) | (refine ⟨_, _, _, _, rfl, (by assumption : _ = some (HO.ins _ _ _)), Tx.cls (by assumption) _ (by decide +kernel), Tx.noat (by assumption) _ _ (by decide +kernel), Nat.le_of_ble_eq_true rfl, ?_⟩) | (refine ⟨_, _, rfl, SqT.of (by assumption), ?_⟩) | (refine ⟨_, _, rfl, SqL.of (by assumption), ?_⟩) | (refine ⟨_, _, rfl, ?_⟩) | (refine ⟨_, _, _, rfl, (by assumption : _ = some (HO.ins _ _ _)), ?_⟩) | (refine ⟨_, _, _, rfl, (by assumption : _ = some (HO.tup _)), ?_⟩) | (refine ⟨_, _, _, rfl, (by assumption : ClAt _ _ _ _), ?_⟩) | (refine ⟨_, _, _, _, _, rfl, (by assumption : ClAt _ _ _ _), (by assumption : _ = some (HO.tup _)), ?_⟩) | (refine ⟨.inl ⟨rfl, _, SqL.of (by assumption)⟩, ?_⟩) | (refine ⟨⟨_, SqL.of (by assumption)⟩, ?_⟩) | (refine ⟨⟨_, SqT.of (by assumption)⟩, ?_⟩) | (with_reducible refine ite_t ?kc ?kg; (case kc => simp; done)) | (with_reducible refine ite_f ?kc ?kg; (case kc => simp; done))))
local macro_rules | `(tactic| walk_at "sc") => `(tactic| exact ⟨rfl, rfl, rfl, by decide +kernel, rfl, by decide +kernel, by decide +kernel⟩)
section
variable {w : World} {K : PySem.W.Frag} {mg : Str → Option Value} {base : Heap}
def sp_law_clause (K : PySem.W.Frag) : Sp := fun vs H Q _ => ∃ (b : Addr) (p : Pt), vs = [.ref b] ∧ H b = some (.tup (ptV p)) ∧ Ok p ∧ ∀ H' a, Same H H' → ClAt K H' a p → Q (.ref a) H'
theorem sc_law_clause : FnScope ["_law_sketch_here"] ["_law_sketch_here"] (defScope s_law_clause) := by walk_at "sc"
theorem ok_law_clause (T : Tx w K mg) : Fn PG w K mg base 6 (ga K "_law_clause") (sp_law_clause K) := by
  obtain ⟨fd, F⟩ := T.fn _ m_law_clause
  refine fn_mk F (F.bindsN fun _ _ _ _ _ _ us hl => match us, hl with | [_], _ => rfl) sc_law_clause (fun vs H Q E h => by obtain ⟨b, p, rfl, hb, ok, q⟩ := h; rfl) ?_
  intro cdv A outer s H vs Q E hr h
  refine ⟨_, PSs.nox (pss_one (ps_ret (pe_mk (T.mkr "Clause" (by decide +kernel)) (ok_Clause_init T) (hr.mono (by decide)) (T.g "Clause") (pa_cons (pe_ix ix_tup (pv 0) pe_int (fun _ _ => rfl)) (pa_cons (pe_ix ix_tup (pv 0) pe_int (fun _ _ => rfl)) (pa_cons (pe_ix ix_tup (pv 0) pe_int (fun _ _ => rfl)) (pa_cons (pe_ix ix_tup (pv 0) pe_int (fun _ _ => rfl)) (pa_cons (pe_ix ix_tup (pv 0) pe_int (fun _ _ => rfl)) (pa_cons (pe_ix ix_tup (pv 0) pe_int (fun _ _ => rfl)) (pa_cons (pe_ix ix_tup (pv 0) pe_int (fun _ _ => rfl)) pa_nil)))))))))), ?_⟩
  obtain ⟨b, p, rfl, hb, ok, q⟩ := h
  walk_at "rd"
  intro x dx hx hdx nx
  refine ⟨x, dx, p, rfl, upd_same, ok, fun H' t SX h1 h2 => ⟨rfl, q H' x (fun y o e => ?_) ⟨dx, t, h1, h2⟩⟩⟩
  have n1 : y ≠ x := ne_of_none e hx
  have n2 : y ≠ dx := ne_of_none e hdx
  exact SX y o n1 (by rw [upd_ne n1, upd_ne n2]; exact e)
end
end K56
namespace K56
open PySem PySem.Spec PyProof.Rows L2
local macro_rules | `(tactic| walk_at "rd") => `(tactic| repeat (first | (refine ⟨_, rfl, ?_⟩) | (refine ⟨_, _, rfl, rfl, ?_⟩) | (refine ⟨rfl, ?_⟩) | (refine ⟨_, (by assumption : _ = some (HO.tup _)), ?_⟩) | (refine ⟨_, _, _, _, rfl, rfl, SqT.of (by assumption), rfl, ?_⟩) | (refine ⟨_, _, _, _, rfl, rfl, SqL.of (by assumption), rfl, ?_⟩) | (refine ⟨_, _, rfl, .inr (SqT.of (by assumption)), ?_⟩) | (refine ⟨_, _, rfl, .inl (SqL.of (by assumption)), ?_⟩) | (refine ⟨_, _, rfl, SqT.of (by assumption), rfl, ?_⟩) | (refine ⟨_, _, _, _, _, rfl, (by assumption : _ = some (HO.ins _ _ _)), Tx.cls (by assumption) _ (by decide +kernel), Tx.noat (by assumption) _ _ (by decide +kernel), rfl, ?_⟩) | (refine ⟨_, _, _, rfl, (by assumption : _ = some (HO.ins _ _ _)), _, _, rfl, (by assumption : ClAt _ _ _ _), ?_⟩) | (refine ⟨_, _, _, _, rfl, (by assumption : _ = some (HO.ins _ _ _)), Tx.cls (by assumption) _ (by decide +kernel), Tx.noat (by assumption) _ _ (by decide +kernel), Nat.le_of_ble_eq_true rfl, ?_⟩) | (refine ⟨_, _, rfl, SqT.of (by assumption), ?_⟩) | (refine ⟨_, _, rfl, SqL.of (by assumption), ?_⟩) | (refine ⟨_, _, rfl, ?_⟩) | (refine ⟨_, _, _, rfl, (by assumption : _ = some (HO.ins _ _ _)), ?_⟩) | (refine ⟨_, _, _, rfl, (by assumption : _ = some (HO.tup _)), ?_⟩) | (refine ⟨_, _, _, rfl, (by assumption : ClAt _ _ _ _), ?_⟩) | (refine ⟨_, _, _, _, _, rfl, (by assumption : ClAt _ _ _ _), (by assumption : _ = some (HO.tup _)), ?_⟩) | (refine ⟨.inl ⟨rfl, _, SqL.of (by assumption)⟩, ?_⟩) | (refine ⟨⟨_, SqL.of (by assumption)⟩, ?_⟩) | (refine ⟨⟨_, SqT.of (by assumption)⟩, ?_⟩) | (with_reducible refine ite_t ?kc ?kg; (case kc => simp; done)) | (with_reducible refine ite_f ?kc ?kg; (case kc => simp; done))))
local macro_rules | `(tactic| walk_at "sc") => `(tactic| exact ⟨rfl, rfl, rfl, by decide +kernel, rfl, by decide +kernel, by decide +kernel⟩)
def FlAt (H : Hp) (p : Addr) : Option Fd → Prop
  | none => H p = some (.lst [])
  | some f => ∃ v, FdAt H v f ∧ H p = some (.lst [v])
theorem fl_none {H : Hp} {p : Addr} {o : Option Fd} (e : o = none) (h : H p = some (.lst [])) : FlAt H p o := by
  subst e
  exact h
theorem fl_some {H : Hp} {p : Addr} {o : Option Fd} {f : Fd} {v : V} (e : o = some f) (hv : FdAt H v f) (h : H p = some (.lst [v])) : FlAt H p o := by
  subst e
  exact ⟨v, hv, h⟩
section
variable {w : World} {K : PySem.W.Frag} {mg : Str → Option Value} {base : Heap}
def sp_law_names : Sp := fun vs H Q _ => ∃ (a : Addr) (c : Cm), vs = [.ref a] ∧ CmAt H a c ∧ ∀ p, H p = none → Q (.ref p) (upd H p (.lst (nmL c.names)))
theorem sc_law_names : FnScope ["_law_said"] ["_law_said"] (defScope s_law_names) := by walk_at "sc"
theorem ok_law_names (T : Tx w K mg) : Fn PG w K mg base 1 (ga K "_law_names") sp_law_names := by
  obtain ⟨fd, F⟩ := T.fn _ m_law_names
  refine fn_mk F (F.bindsN fun _ _ _ _ _ _ us hl => match us, hl with | [_], _ => rfl) sc_law_names (fun vs H Q E h => by obtain ⟨a, c, rfl, hc, q⟩ := h; rfl) ?_
  intro cdv A outer s H vs Q E hr h
  refine ⟨_, PSs.nox (pss_one (ps_ret (pe_ifExp (pt_cmpR op_eq (pe_ix ix_tup (pv 0) pe_int (fun _ _ => rfl)) pe_str (nomark _)) (pe_lst (pa_cons (pe_ix ix_tup (pv 0) pe_int (fun _ _ => rfl)) pa_nil)) (pe_lst (pa_cons (pe_ix ix_tup (pv 0) pe_int (fun _ _ => rfl)) (pa_cons (pe_ix ix_tup (pv 0) pe_int (fun _ _ => rfl)) pa_nil)))))), ?_⟩
  obtain ⟨a, c, rfl, hc, q⟩ := h
  cases c with
  | above n m k =>
    have hc : H a = some (.tup [.str "never above", .str (nmS n), .str (nmS m), .int k]) := hc
    walk_at "rd"
    exact ⟨by show 2 ≤ sizeLine; decide, q⟩
  | alike n m =>
    have hc : H a = some (.tup [.str "alike", .str (nmS n), .str (nmS m)]) := hc
    walk_at "rd"
    exact ⟨by show 2 ≤ sizeLine; decide, q⟩
  | below n k =>
    have hc : H a = some (.tup [.str "never below", .str (nmS n), .int k]) := hc
    walk_at "rd"
    exact ⟨by show 1 ≤ sizeLine; decide, q⟩
def sp_law_fault (K : PySem.W.Frag) : Sp := fun vs H Q _ => ∃ (d bd a : Addr) (c : Cm) (t : Tb) (lo hi : Int), vs = [.ref d, .ref bd, .ref a] ∧ Rd H d (.dK (tbK t)) ∧ TbV K H t ∧ CmAt H a c ∧ (∀ n ∈ c.names, hasT t n = true) ∧ BdAt H bd lo hi ∧ (-3 ≤ lo ∧ lo ≤ hi ∧ hi ≤ 3 ∧ hi - lo ≤ 2) ∧
  ∀ H' p, Same H H' → FlAt H' p (faultC t (moves lo hi) c) → Q (.ref p) H'
theorem sc_law_fault : FnScope ["_law_world", "_law_limits_here", "_law_said", "_law_mine", "_law_low", "_law_course", "_law_top"] ["_law_world", "_law_limits_here", "_law_said"] (defScope s_law_fault) := by walk_at "sc"
theorem ok_law_fault (T : Tx w K mg) : Fn PG w K mg base 13 (ga K "_law_fault") (sp_law_fault K) := by
  obtain ⟨fd, F⟩ := T.fn _ m_law_fault
  refine fn_mk F (F.bindsN fun _ _ _ _ _ _ us hl => match us, hl with | [_, _, _], _ => rfl) sc_law_fault (fun vs H Q E h => by obtain ⟨d, bd, a, c, t, lo, hi, rfl, hd, ht, hc, hn, hbd, hz, q⟩ := h; rfl) ?_
  intro cdv A outer s H vs Q E hr h
  refine ⟨_, PSs.nox (pss_cons (ps_set (i := 3) sc_law_fault.nd rfl (Or.inl rfl) (pe_dget (hu_le hr) (pv 0) (pe_ix ix_tup (pv 2) pe_int (fun _ _ => rfl)) (fun _ _ => rfl)))
    (pss_cons (ps_if (pt_cmpR op_eq (pe_ix ix_tup (pv 2) pe_int (fun _ _ => rfl)) pe_str (nomark _)) (pss_cons (ps_set (i := 4) sc_law_fault.nd rfl (Or.inl rfl) (pe_cl (ok_lowest T) (hr.mono (by decide)) (T.g "lowest") (T.kp _ m_lowest) (fun _ => pas0) (pa_cons (pv 3) (pa_cons (pv 1) pa_nil))))
    (pss_one (ps_ret (pe_ifExp (PW.pt (pw_and (pt_cmpR op_ne (pv 4) pe_str (nomark _)) (pw_and1 (pt_cmpR op_ge (pv 4) (pe_un un_neg (pe_ix ix_tup (pv 2) pe_int (fun _ _ => rfl))) (nomark _))))) (pe_lst pa_nil) (pe_lst (pa_cons (pv 4) pa_nil)))))) pss_nil)
    (pss_cons (ps_if (pt_cmpR op_eq (pe_ix ix_tup (pv 2) pe_int (fun _ _ => rfl)) pe_str (nomark _)) (pss_cons (ps_set (i := 5) sc_law_fault.nd rfl (Or.inl rfl) (pe_cl (ok_parting T) (hr.mono (by decide)) (T.g "parting") (T.kp _ m_parting) (fun _ => pas0) (pa_cons (pv 3) (pa_cons (pe_dget (hu_le hr) (pv 0) (pe_ix ix_tup (pv 2) pe_int (fun _ _ => rfl)) (fun _ _ => rfl)) (pa_cons (pv 1) pa_nil)))))
    (pss_one (ps_ret (pe_ifExp (pt_cmpR op_isN (pv 5) pe_non (nomark _)) (pe_lst pa_nil) (pe_lst (pa_cons (pv 5) pa_nil)))))) pss_nil)
    (pss_cons (ps_set (i := 6) sc_law_fault.nd rfl (Or.inl rfl) (pe_cl (ok_lead T) (hr.mono (by decide)) (T.g "lead") (T.kp _ m_lead) (fun _ => pas0) (pa_cons (pv 3) (pa_cons (pe_dget (hu_le hr) (pv 0) (pe_ix ix_tup (pv 2) pe_int (fun _ _ => rfl)) (fun _ _ => rfl)) (pa_cons (pv 1) pa_nil)))))
    (pss_one (ps_ret (pe_ifExp (PW.pt (pw_and (pt_cmpR op_ne (pv 6) pe_str (nomark _)) (pw_and1 (pt_cmpR op_le (pv 6) (pe_ix ix_tup (pv 2) pe_int (fun _ _ => rfl)) (nomark _))))) (pe_lst pa_nil) (pe_lst (pa_cons (pv 6) pa_nil))))))))), ?_⟩
  obtain ⟨d, bd, a, c, t, lo, hi, rfl, hd, ht, hc, hn, hbd, hz, q⟩ := h
  have get : ∀ n, hasT t n = true → ∃ b p, getT t n = some (b, p) ∧ DGet H d (.str (nmS n)) (some (.ref b)) ∧ ClAt K H b p ∧ Ok p := fun n h => by
    unfold hasT at h
    obtain ⟨⟨b, p⟩, e⟩ := Option.isSome_iff_exists.mp h
    have hg := dget_tb hd n
    rw [e] at hg
    have hm := ht _ (mem_getT e)
    exact ⟨b, p, e, hg, hm.1, hm.2⟩
  cases c with
  | above n m k =>
    obtain ⟨b1, p1, e1, g1, c1, o1⟩ := get n (hn n (by simp [Cm.names]))
    obtain ⟨b2, p2, e2, g2, c2, o2⟩ := get m (hn m (by simp [Cm.names]))
    have hc : H a = some (.tup [.str "never above", .str (nmS n), .str (nmS m), .int k]) := hc
    walk_at "rd"
    refine ⟨_, _, rfl, g1, ?_⟩
    walk_at "rd"
    refine ⟨_, _, rfl, g2, ?_⟩
    walk_at "rd"
    refine ⟨b1, b2, bd, p1, p2, lo, hi, rfl, c1, c2, o1, o2, hbd, hz, fun H2 S2 => ?_⟩
    have S1 := Same.refl H
    have hc2 := S2 _ _ hc
    have ef : faultC t (moves lo hi) (.above n m k) = ldF (lead p1 p2 (moves lo hi)) fun i => decide (i ≤ k) := by
      show (getT t n).bind _ = _
      rw [e1]
      show (getT t m).bind _ = _
      rw [e2]
      rfl
    rw [ef] at q
    cases hl : lead p1 p2 (moves lo hi) with
    | none =>
      rw [hl] at q
      walk_at "rd"
      exact ⟨by show 1 ≤ sizeLine; decide, fun p hp => q _ p ((S1.trans S2).trans (same_new hp)) (fl_some (f := .ld none) rfl rfl upd_same)⟩
    | some i =>
      rw [hl] at q
      walk_at "rd"
      refine ite_d (fun c => ?_) (fun c => ?_)
      · walk_at "rd"
        exact ⟨by show 0 ≤ sizeLine; decide, fun p hp => q _ p ((S1.trans S2).trans (same_new hp)) (fl_none (if_pos (decide_eq_true c)) upd_same)⟩
      · walk_at "rd"
        exact ⟨by show 1 ≤ sizeLine; decide, fun p hp => q _ p ((S1.trans S2).trans (same_new hp)) (fl_some (f := .ld (some i)) (if_neg (by simpa using c)) rfl upd_same)⟩
  | alike n m =>
    obtain ⟨b1, p1, e1, g1, c1, o1⟩ := get n (hn n (by simp [Cm.names]))
    obtain ⟨b2, p2, e2, g2, c2, o2⟩ := get m (hn m (by simp [Cm.names]))
    have hc : H a = some (.tup [.str "alike", .str (nmS n), .str (nmS m)]) := hc
    walk_at "rd"
    refine ⟨_, _, rfl, g1, ?_⟩
    walk_at "rd"
    refine ⟨_, _, rfl, g2, ?_⟩
    walk_at "rd"
    refine ⟨b1, b2, bd, p1, p2, lo, hi, rfl, c1, c2, o1, o2, hbd, hz, fun H1 v S1 hv => ?_⟩
    have ef : faultC t (moves lo hi) (.alike n m) = (parting p1 p2 (moves lo hi)).map .co := by
      show (getT t n).bind _ = _
      rw [e1]
      show (getT t m).bind _ = _
      rw [e2]
      rfl
    rw [ef] at q
    cases hl : parting p1 p2 (moves lo hi) with
    | none =>
      rw [hl] at q hv
      obtain rfl : v = .non := hv
      walk_at "rd"
      exact ⟨by show 0 ≤ sizeLine; decide, fun p hp => q _ p (S1.trans (same_new hp)) (fl_none rfl upd_same)⟩
    | some l =>
      rw [hl] at q hv
      obtain ⟨tp, rfl, htp⟩ := hv
      walk_at "rd"
      exact ⟨by show 1 ≤ sizeLine; decide, fun p hp => q _ p (S1.trans (same_new hp)) (fl_some (f := .co l) rfl ⟨tp, rfl, by rw [upd_ne (ne_of_none htp hp)]; exact htp⟩ upd_same)⟩
  | below n k =>
    obtain ⟨b1, p1, e1, g1, c1, o1⟩ := get n (hn n (by simp [Cm.names]))
    have hc : H a = some (.tup [.str "never below", .str (nmS n), .int k]) := hc
    walk_at "rd"
    refine ⟨_, _, rfl, g1, ?_⟩
    walk_at "rd"
    refine ⟨b1, bd, p1, lo, hi, rfl, c1, o1, hbd, hz, fun H1 S1 => ?_⟩
    have hc1 := S1 _ _ hc
    have ef : faultC t (moves lo hi) (.below n k) = ldF (lowest p1 (moves lo hi)) fun i => decide (-k ≤ i) := by
      show (getT t n).bind _ = _
      rw [e1]
      rfl
    rw [ef] at q
    cases hl : lowest p1 (moves lo hi) with
    | none =>
      rw [hl] at q
      walk_at "rd"
      exact ⟨by show 1 ≤ sizeLine; decide, fun p hp => q _ p (S1.trans (same_new hp)) (fl_some (f := .ld none) rfl rfl upd_same)⟩
    | some i =>
      rw [hl] at q
      walk_at "rd"
      refine ite_d (fun c => ?_) (fun c => ?_)
      · walk_at "rd"
        exact ⟨by show 0 ≤ sizeLine; decide, fun p hp => q _ p (S1.trans (same_new hp)) (fl_none (if_pos (decide_eq_true c)) upd_same)⟩
      · walk_at "rd"
        exact ⟨by show 1 ≤ sizeLine; decide, fun p hp => q _ p (S1.trans (same_new hp)) (fl_some (f := .ld (some i)) (if_neg (by simpa using c)) rfl upd_same)⟩
end
end K56
namespace K56
open PySem PySem.Spec PyProof.Rows L2
local macro_rules | `(tactic| walk_at "rd") => `(tactic| repeat (first | (refine ⟨_, rfl, ?_⟩) | (refine ⟨_, _, rfl, rfl, ?_⟩) | (refine ⟨rfl, ?_⟩) | (refine ⟨_, (by assumption : _ = some (HO.tup _)), ?_⟩) | (refine ⟨_, _, _, _, rfl, rfl, SqT.of (by assumption), rfl, ?_⟩) | (refine ⟨_, _, _, _, rfl, rfl, SqL.of (by assumption), rfl, ?_⟩) | (refine ⟨_, _, rfl, .inr (SqT.of (by assumption)), ?_⟩) | (refine ⟨_, _, rfl, .inl (SqL.of (by assumption)), ?_⟩) | (refine ⟨_, _, rfl, SqT.of (by assumption), rfl, ?_⟩) | (refine ⟨_, _, _, _, _, rfl, (by assumption : _ = some (HO.ins _ _ _)), Tx.cls (by assumption) _ (by decide +kernel), Tx.noat (by assumption) _ _ (by decide +kernel), rfl, ?_⟩) | (refine ⟨_, _, _, rfl, (by assumption : _ = some (HO.ins _ _ _)), _, _, rfl, (by assumption : ClAt _ _ _ _), ?_⟩) | (refine ⟨_, _, _, _, rfl, (by assumption : _ = some (HO.ins _ _ _)), Tx.cls (by assumption) _ (by decide +kernel), Tx.noat (by assumption) _ _ (by decide +kernel), Nat.le_of_ble_eq_true rfl, ?_⟩) | (refine ⟨_, _, rfl, SqT.of (by assumption), ?_⟩) | (refine ⟨_, _, rfl, SqL.of (by assumption), ?_⟩) | (refine ⟨_, _, rfl, ?_⟩) | (refine ⟨_, _, _, rfl, (by assumption : _ = some (HO.ins _ _ _)), ?_⟩) | (refine ⟨_, _, _, rfl, (by assumption : _ = some (HO.tup _)), ?_⟩) | (refine ⟨_, _, _, rfl, (by assumption : ClAt _ _ _ _), ?_⟩) | (refine ⟨_, _, _, _, _, rfl, (by assumption : ClAt _ _ _ _), (by assumption : _ = some (HO.tup _)), ?_⟩) | (refine ⟨.inl ⟨rfl, _, SqL.of (by assumption)⟩, ?_⟩) | (refine ⟨⟨_, SqL.of (by assumption)⟩, ?_⟩) | (refine ⟨⟨_, SqT.of (by assumption)⟩, ?_⟩) | (with_reducible refine ite_t ?kc ?kg; (case kc => simp; done)) | (with_reducible refine ite_f ?kc ?kg; (case kc => simp; done))))
local macro_rules | `(tactic| walk_at "sc") => `(tactic| exact ⟨rfl, rfl, rfl, by decide +kernel, rfl, by decide +kernel, by decide +kernel⟩)
theorem FlAt.mono {H H' : Hp} (e : Same H H') {p : Addr} {o : Option Fd} (h : FlAt H p o) : FlAt H' p o := by
  cases o with
  | none => exact e _ _ h
  | some f =>
    obtain ⟨v, h1, h2⟩ := h
    exact ⟨v, h1.mono e, e _ _ h2⟩
theorem dp_fl (K : PySem.W.Frag) {H : Hp} {p : Addr} {o : Option Fd} (h : FlAt H p o) : Dp K H (.ref p) (.list (ftD o)) := by
  cases o with
  | none => exact .lst (SqL.of h) .nil
  | some f =>
    obtain ⟨v, hv, hp⟩ := h
    exact .lst (SqL.of hp) (.cons (dp_fd K hv) .nil)
theorem fl_shaped (o : Option Fd) : SeqAt.shaped (.list (ftD o)) = true := by
  cases o with
  | none => rfl
  | some f =>
    obtain ⟨h1, h2⟩ := fd_lay f
    unfold SeqAt.shaped
    have e1 : PyData.canLay0 (.list (ftD (some f))) = (PyData.canLay0 (fdD f) && true) := rfl
    have e2 : PyData.depth (.list (ftD (some f))) = max (PyData.depth (fdD f)) 0 + 1 := rfl
    rw [e1, h1, e2]
    simp
    omega
theorem fl_eqv (o : Option Fd) : PyData.eqv (.list (ftD o)) (.list []) = o.isNone := by
  cases o <;> rfl
section
variable {w : World} {K : PySem.W.Frag} {mg : Str → Option Value} {base : Heap}
/-- the law's word for what a deed meets, as a list -/
def DuAt (H : Hp) (p : Addr) : Option Due → Prop
  | none => H p = some (.lst [])
  | some (.broken i f) => ∃ v, FdAt H v f ∧ H p = some (.lst [.str "Broken", .int i, v])
  | some (.unknown n) => H p = some (.lst [.str "UnknownName", .str (nmS n)])
  | some (.inuse i) => H p = some (.lst [.str "InUse", .int i])
  | some (.place i) => H p = some (.lst [.str "InvalidPlace", .int i])
  | some .nothing => H p = some (.lst [.str "NothingToUndo"])
def sp_law_broken (K : PySem.W.Frag) : Sp := fun vs H Q _ => ∃ (d bd a l : Addr) (cs : Cs) (t : Tb) (lo hi : Int) (ks : List Nat), vs = [.ref d, .ref bd, .ref a, .ref l] ∧ Rd H d (.dK (tbK t)) ∧ TbV K H t ∧ H a = some (.lst (csR cs)) ∧ CsV H cs ∧ (∀ k ∈ ks, ∃ x, cs[k]? = some x ∧ ∀ n ∈ x.2.names, hasT t n = true) ∧ H l = some (.lst (ks.map fun k => .int (k : Nat))) ∧ BdAt H bd lo hi ∧ (-3 ≤ lo ∧ lo ≤ hi ∧ hi ≤ 3 ∧ hi - lo ≤ 2) ∧
  ∀ H' p, Same H H' → DuAt H' p (brkL t (moves lo hi) cs ks) → Q (.ref p) H'
theorem sc_law_broken : FnScope ["_law_world", "_law_limits_here", "_law_claims", "_law_spots", "_law_k", "_law_fault_here"] ["_law_world", "_law_limits_here", "_law_claims", "_law_spots"] (defScope s_law_broken) := by walk_at "sc"
theorem ok_law_broken (T : Tx w K mg) : Fn PG w K mg base 14 (ga K "_law_broken") (sp_law_broken K) := by
  obtain ⟨fd, F⟩ := T.fn _ m_law_broken
  refine fn_mk F (F.bindsN fun _ _ _ _ _ _ us hl => match us, hl with | [_, _, _, _], _ => rfl) sc_law_broken (fun vs H Q E h => by obtain ⟨d, bd, a, l, cs, t, lo, hi, ks, rfl, hd, ht, ha, hcs, hk, hl, hbd, hz, q⟩ := h; rfl) ?_
  intro cdv A outer s H vs Q E hr h
  refine ⟨_, PSs.nox (pss_cons (ps_for PassesOwn.never rfl (pi_list (pv 3)) (pg_name (i := 4) sc_law_broken.nd rfl (Or.inl rfl)) (pss_cons (ps_set (i := 5) sc_law_broken.nd rfl (Or.inl rfl) (pe_cl (ok_law_fault T) (hr.mono (by decide)) (T.g "_law_fault") (T.kp _ m_law_fault) (fun _ => pas0) (pa_cons (pv 0) (pa_cons (pv 1) (pa_cons (pe_ix ix_list (pv 2) (pv 4) (fun _ _ => rfl)) pa_nil)))))
    (pss_one (ps_if (pt_cmpR (op_neD (hu_le hr)) (pv 5) (pe_lst pa_nil) (nomark _)) (pss_one (ps_ret (pe_op op_cat (pe_lst (pa_cons pe_str (pa_cons (pv 4) pa_nil))) (pv 5)))) pss_nil))))
    (pss_one (ps_ret (pe_lst pa_nil)))), ?_⟩
  obtain ⟨d, bd, a, l, cs, t, lo, hi, ks, rfl, hd, ht, ha, hcs, hk, hl, hbd, hz, q⟩ := h
  walk_at "rd"
  refine for_it (walk_list (xs := ks.map fun k => .int (k : Nat))) (fun i σ H1 => (∃ v4 v5, σ = [some (.ref d), some (.ref bd), some (.ref a), some (.ref l), v4, v5]) ∧ Same H H1 ∧ brkL t (moves lo hi) cs (ks.drop i) = brkL t (moves lo hi) cs ks)
    ⟨⟨_, _, rfl⟩, .refl _, rfl⟩ (fun _ _ H1 _ h => SqL.of (h.2.1 _ _ hl)) (fun i v σ H1 H2 hi' h hy => ?_) fun σ H1 h => ?_
  · obtain ⟨⟨v4, v5, rfl⟩, S1, f1⟩ := h
    obtain ⟨rfl, hv⟩ := hy
    rw [List.length_map] at hi'
    have hki : ks[i]? = some ks[i] := List.getElem?_eq_getElem hi'
    rw [List.getElem?_map, hki] at hv
    obtain rfl := Option.some.inj hv
    obtain ⟨x, hx, hxn⟩ := hk _ (List.getElem_mem hi')
    have f2 : brkL t (moves lo hi) cs (ks.drop i) = match faultC t (moves lo hi) x.2 with | some f => some (.broken ks[i] f) | none => brkL t (moves lo hi) cs (ks.drop (i + 1)) := by
      rw [List.drop_eq_getElem_cons hi']
      simp only [brkL, hx]
      all_goals (cases faultC t (moves lo hi) x.2 <;> rfl)
    rw [f2] at f1
    generalize (ks[i] : Nat) = k at f1 hx
    have hxm := hcs x (List.mem_of_getElem? hx)
    have hax : (csR cs)[k]? = some (.ref x.1) := by unfold csR; rw [List.getElem?_map, hx]; rfl
    have ha1 := S1 _ _ ha
    walk_at "rd"
    refine ⟨_, _, _, _, rfl, rfl, SqL.of ha1, atI_nat hax, ?_⟩
    walk_at "rd"
    refine ⟨d, bd, x.1, x.2, t, lo, hi, rfl, K56.Rd.mono S1 hd, ht.mono S1, S1 _ _ hxm.1, hxn, S1 _ _ hbd, hz, fun H3 p3 S3 hp3 => ?_⟩
    walk_at "rd"
    refine ⟨by show 0 ≤ sizeLine; decide, fun p4 hp4 => ?_⟩
    generalize e4 : upd H3 p4 _ = H4
    have S4 : Same H3 H4 := e4 ▸ same_new hp4
    have u4 : H4 p4 = some (.lst []) := e4 ▸ upd_same
    have hp3' := hp3.mono S4
    have S14 := (S1.trans S3).trans S4
    refine ⟨_, _, dp_fl _ hp3', .lst (SqL.of u4) .nil, fl_shaped _, rfl, ?_⟩
    rw [fl_eqv]
    cases hf : faultC t (moves lo hi) x.2 with
    | none =>
      rw [hf] at f1
      walk_at "rd"
      exact ⟨⟨_, _, rfl⟩, S14, f1⟩
    | some f =>
      rw [hf] at f1 hp3'
      obtain ⟨v, hv, hpv⟩ := hp3'
      walk_at "rd"
      refine ⟨by show 2 ≤ sizeLine; decide, fun p5 hp5 => ?_⟩
      generalize e5 : upd H4 p5 _ = H5
      have S5 : Same H4 H5 := e5 ▸ same_new hp5
      have u5 : H5 p5 = some (.lst [.str "Broken", .int k]) := e5 ▸ upd_same
      have hpv5 := S5 _ _ hpv
      walk_at "rd"
      refine ⟨_, _, _, _, rfl, rfl, u5, hpv5, by show 3 ≤ sizeLine; decide, fun p6 hp6 => q _ p6 ((S14.trans S5).trans (same_new hp6)) ?_⟩
      rw [← f1]
      exact ⟨v, (hv.mono S5).mono (same_new hp6), upd_same⟩
  · obtain ⟨⟨v4, v5, rfl⟩, S1, f1⟩ := h
    rw [List.length_map, List.drop_length] at f1
    rw [← f1] at q
    walk_at "rd"
    exact ⟨by show 0 ≤ sizeLine; decide, fun p hp => q _ p (S1.trans (same_new hp)) upd_same⟩
end
end K56
namespace K56
open PySem PySem.Spec PyProof.Rows L2
local macro_rules | `(tactic| walk_at "rd") => `(tactic| repeat (first | (refine ⟨_, rfl, ?_⟩) | (refine ⟨_, _, rfl, rfl, ?_⟩) | (refine ⟨rfl, ?_⟩) | (refine ⟨_, (by assumption : _ = some (HO.tup _)), ?_⟩) | (refine ⟨_, _, _, _, rfl, rfl, SqT.of (by assumption), rfl, ?_⟩) | (refine ⟨_, _, _, _, rfl, rfl, SqL.of (by assumption), rfl, ?_⟩) | (refine ⟨_, _, rfl, .inr (SqT.of (by assumption)), ?_⟩) | (refine ⟨_, _, rfl, .inl (SqL.of (by assumption)), ?_⟩) | (refine ⟨_, _, rfl, SqT.of (by assumption), rfl, ?_⟩) | (refine ⟨_, _, _, _, _, rfl, (by assumption : _ = some (HO.ins _ _ _)), Tx.cls (by assumption) _ (by decide +kernel), Tx.noat (by assumption) _ _ (by decide +kernel), rfl, ?_⟩) | (refine ⟨_, _, _, rfl, (by assumption : _ = some (HO.ins _ _ _)), _, _, rfl, (by assumption : ClAt _ _ _ _), ?_⟩) | (refine ⟨_, _, _, _, rfl, (by assumption : _ = some (HO.ins _ _ _)), Tx.cls (by assumption) _ (by decide +kernel), Tx.noat (by assumption) _ _ (by decide +kernel), Nat.le_of_ble_eq_true rfl, ?_⟩) | (refine ⟨_, _, rfl, SqT.of (by assumption), ?_⟩) | (refine ⟨_, _, rfl, SqL.of (by assumption), ?_⟩) | (refine ⟨_, _, rfl, ?_⟩) | (refine ⟨_, _, _, rfl, (by assumption : _ = some (HO.ins _ _ _)), ?_⟩) | (refine ⟨_, _, _, rfl, (by assumption : _ = some (HO.tup _)), ?_⟩) | (refine ⟨_, _, _, rfl, (by assumption : ClAt _ _ _ _), ?_⟩) | (refine ⟨_, _, _, _, _, rfl, (by assumption : ClAt _ _ _ _), (by assumption : _ = some (HO.tup _)), ?_⟩) | (refine ⟨.inl ⟨rfl, _, SqL.of (by assumption)⟩, ?_⟩) | (refine ⟨⟨_, SqL.of (by assumption)⟩, ?_⟩) | (refine ⟨⟨_, SqT.of (by assumption)⟩, ?_⟩) | (with_reducible refine ite_t ?kc ?kg; (case kc => simp; done)) | (with_reducible refine ite_f ?kc ?kg; (case kc => simp; done))))
local macro_rules | `(tactic| walk_at "sc") => `(tactic| exact ⟨rfl, rfl, rfl, by decide +kernel, rfl, by decide +kernel, by decide +kernel⟩)
/-- the names in order -/
def nmsS (l : List Nm) : List Str := (if false ∈ l then [("one" : Str)] else []) ++ (if true ∈ l then [("onto" : Str)] else [])
theorem perm_two {α : Type} {x y : α} {ys : List α} (h : ys.Perm [x, y]) : ys = [x, y] ∨ ys = [y, x] := by
  match ys, h with
  | [], h => exact absurd h.length_eq (by simp)
  | [_], h => exact absurd h.length_eq (by simp)
  | [a, b], h =>
    have h1 : a ∈ [x, y] := h.mem_iff.mp (by simp)
    simp only [List.mem_cons, List.not_mem_nil, or_false] at h1
    rcases h1 with e | e
    · subst e
      have h2 := (List.perm_cons a).mp h
      rw [List.perm_singleton] at h2
      cases h2
      exact .inl rfl
    · subst e
      have h2 := (List.perm_cons a).mp (h.trans (List.Perm.swap a x []))
      rw [List.perm_singleton] at h2
      cases h2
      exact .inr rfl
  | _ :: _ :: _ :: _, h => exact absurd h.length_eq (by simp)
theorem sorted_names : ∀ {l : List Nm}, l.Nodup → ∀ {ys : List Str}, ys.Perm (l.map nmS) → sortedS ys = true → ys = nmsS l
  | [], _, ys, h, _ => by
    rw [List.map_nil] at h
    rw [List.perm_nil.mp h]
    rfl
  | [a], _, ys, h, _ => by
    rw [List.map_singleton, List.perm_singleton] at h
    rw [h]
    cases a <;> rfl
  | [a, b], hn, ys, h, hs => by
    have hab : a ≠ b := fun e => by subst e; simp at hn
    rcases perm_two h with e | e
    · rw [e] at hs ⊢
      cases a <;> cases b
      · exact absurd rfl hab
      · rfl
      · exact absurd hs (by decide +kernel)
      · exact absurd rfl hab
    · rw [e] at hs ⊢
      cases a <;> cases b
      · exact absurd rfl hab
      · exact absurd hs (by decide +kernel)
      · rfl
      · exact absurd rfl hab
  | a :: b :: c :: r, hn, _, _, _ => by
    exfalso
    simp only [List.nodup_cons, List.mem_cons, not_or] at hn
    cases a <;> cases b <;> cases c <;> simp at hn
theorem tbK_keys (t : Tb) : (tbK t).map (·.1) = ((t.map (·.1)).map nmS).map Sum.inr := by
  unfold tbK
  rw [List.map_map, List.map_map, List.map_map]
  rfl
theorem tbK_len (t : Tb) : (tbK t).length = t.length := by unfold tbK; rw [List.length_map]
theorem nms_short {t : Tb} (hn : (t.map (·.1)).Nodup) : ((t.map (·.1)).map nmS).length < 64 := by
  have := names_two hn
  rw [List.length_map, List.length_map]
  omega
section
variable {w : World} {K : PySem.W.Frag} {mg : Str → Option Value} {base : Heap}
def sp_Desk_names (K : PySem.W.Frag) : Sp := fun vs H Q _ => ∃ (dk dx bd s n p td tc : Addr) (t : Tb), vs = [.ref dk] ∧ DkS K H dk dx bd s n p td tc ∧ H td = some (.dK (tbK t)) ∧ (t.map (·.1)).Nodup ∧
  ∀ H' p, Same H H' → H' p = some (.tup ((nmsS (t.map (·.1))).map V.str)) → Q (.ref p) H'
theorem sc_Desk_names : FnScope ["self"] ["self"] (defScope s_Desk_names) := by walk_at "sc"
theorem ok_Desk_names (T : Tx w K mg) : Fn PG w K mg base 3 (pgA K "Desk" "names") (sp_Desk_names K) := by
  obtain ⟨fd, F⟩ := T.gt _ mg_Desk_names
  refine fn_mk F (F.bindsN fun _ _ _ _ _ _ us hl => match us, hl with | [_], _ => rfl) sc_Desk_names (fun vs H Q E h => by obtain ⟨dk, dx, bd, s, n, p, td, tc, t, rfl, hS, ht, hn, q⟩ := h; rfl) ?_
  intro cdv A outer s H vs Q E hr h
  refine ⟨_, PSs.nox (pss_one (ps_ret (pe_callTy call_tuple_of rfl (T.f "tuple") (by decide +kernel) (pa_cons (pe_callB cr_sortedS rfl (T.f "sorted") (by decide +kernel) (pa_cons (pe_callTy (call_listD rfl) rfl (T.f "list") (by decide +kernel) (pa_cons (pe_pr (pv 0) (T.cls "Desk" (by decide +kernel)) (T.pr _ mg_Desk_table) (ok_Desk_table T) (hr.mono (by decide))) pa_nil)) pa_nil)) pa_nil)))), ?_⟩
  obtain ⟨dk, dx, bd, s, n, p, td, tc, t, rfl, hS, ht, hn, q⟩ := h
  have h1 := hS.1
  walk_at "rd"
  refine ⟨dk, dx, bd, s, n, p, td, tc, rfl, hS, ?_⟩
  walk_at "rd"
  refine ⟨_, _, rfl, .inl ht, fun p1 hp1 => ?_⟩
  generalize e1 : upd H p1 _ = H1
  have S1 : Same H H1 := e1 ▸ same_new hp1
  have u1 : H1 p1 = some (.lst (((t.map (·.1)).map nmS).map V.str)) := by
    rw [← e1, upd_same]
    unfold tbK
    rw [List.map_map, List.map_map, List.map_map]
    rfl
  refine ⟨_, _, rfl, SqL.of u1, nms_short hn, fun ys p2 hp hs hp2 => ?_⟩
  rw [sorted_names hn hp hs]
  generalize e2 : upd H1 p2 _ = H2
  have S2 : Same H1 H2 := e2 ▸ same_new hp2
  have u2 : H2 p2 = some (.lst ((nmsS (t.map (·.1))).map V.str)) := e2 ▸ upd_same
  refine ⟨_, _, rfl, .inl ⟨SqL.of u2, fun p3 hp3 => ?_⟩⟩
  exact q _ p3 ((S1.trans S2).trans (same_new hp3)) upd_same
/-- the law's claims: a list -/
def LcAt (G : Hp) (a : Addr) (cs : Cs) : Prop := G a = some (.lst (csR cs)) ∧ CsV G cs
theorem LcAt.mono {G G' : Hp} (e : Same G G') {a : Addr} {cs : Cs} (h : LcAt G a cs) : LcAt G' a cs := ⟨e _ _ h.1, h.2.mono e⟩
/-- one standing of the law, a pair -/
def LeAt (K : PySem.W.Frag) (G : Hp) (v : V) (e : Tb × Cs) : Prop := ∃ n d a, v = .ref n ∧ G n = some (.tup [.ref d, .ref a]) ∧ TdAt K G d e.1 ∧ LcAt G a e.2
theorem LeAt.mono {G G' : Hp} (e : Same G G') {v : V} {x : Tb × Cs} (h : LeAt K G v x) : LeAt K G' v x := by
  obtain ⟨n, d, a, h1, h2, h3, h4⟩ := h
  exact ⟨n, d, a, h1, e _ _ h2, h3.mono e, h4.mono e⟩
/-- the law's state at L: its own things by their addresses -/
def LwS (K : PySem.W.Frag) (G : Hp) (d a h : Addr) (hvs : List V) (st : Sta) : Prop := TdAt K G d st.tb ∧ LcAt G a st.cs ∧ G h = some (.lst hvs) ∧ Paired (LeAt K G) hvs st.past
theorem LwS.mono {G G' : Hp} (e : Same G G') {d a h : Addr} {hvs : List V} {st : Sta} (z : LwS K G d a h hvs st) : LwS K G' d a h hvs st := ⟨z.1.mono e, z.2.1.mono e, e _ _ z.2.2.1, K56.Paired.imp (fun _ _ y => LeAt.mono e y) z.2.2.2⟩
def LwAt (K : PySem.W.Frag) (G H : Hp) (L bd : Addr) (st : Sta) : Prop := ∃ d a h hvs, H L = some (.lst [.ref d, .ref a, .ref h, .ref bd]) ∧ LwS K G d a h hvs st
theorem LwAt.same {M : List Addr} {H H' : Hp} (S : Same H H') {L bd : Addr} {st : Sta} (h : LwAt K (dl M H) H L bd st) : LwAt K (dl M H') H' L bd st := by
  obtain ⟨d, a, h, hvs, h1, h2⟩ := h
  exact ⟨d, a, h, hvs, S _ _ h1, h2.mono (K56.Same.dl S)⟩
theorem LwAt.fr {M : List Addr} {H H' : Hp} {m : Addr} (hm : m ∈ M) (f : Fr m H H') {L bd : Addr} (hd : L ≠ m) {st : Sta} (h : LwAt K (dl M H) H L bd st) : LwAt K (dl M H') H' L bd st := by
  obtain ⟨d, a, h, hvs, h1, h2⟩ := h
  exact ⟨d, a, h, hvs, f _ _ hd h1, h2.mono (f.dl hm)⟩
/-! ### what repr is asked of -/
def cmD : Cm → PyData
  | .above n m k => .tuple [.str "never above", .str (nmS n), .str (nmS m), .int k]
  | .alike n m => .tuple [.str "alike", .str (nmS n), .str (nmS m)]
  | .below n k => .tuple [.str "never below", .str (nmS n), .int k]
theorem dp_cm {H : Hp} {a : Addr} {c : Cm} (h : CmAt H a c) : Dp K H (.ref a) (cmD c) := by
  cases c with
  | above n m k => exact .tup (SqT.of h) (.cons (.str _) (.cons (.str _) (.cons (.str _) (.cons (.int _) .nil))))
  | alike n m => exact .tup (SqT.of h) (.cons (.str _) (.cons (.str _) (.cons (.str _) .nil)))
  | below n k => exact .tup (SqT.of h) (.cons (.str _) (.cons (.str _) (.cons (.int _) .nil)))
theorem dp_csR {H : Hp} : ∀ {cs : Cs}, CsV H cs → DpAll K H (csR cs) (cs.map fun x => cmD x.2)
  | [], _ => .nil
  | x :: cs, h => .cons (dp_cm (h x (List.mem_cons_self ..)).1) (dp_csR (cs := cs) fun y hy => h y (List.mem_cons_of_mem _ hy))
theorem dp_strs {H : Hp} : ∀ l : List Str, DpAll K H (l.map V.str) (l.map PyData.str)
  | [] => .nil
  | _ :: l => .cons (.str _) (dp_strs l)
theorem sm_nm (k : Nat) (n : Nm) : Sm k 4 (.str (nmS n)) := by cases n <;> exact Sm.str (by decide +kernel)
theorem sm_cm (c : Cm) (ok : c.ok) : Sm 1 200 (cmD c) := by
  cases c with
  | above n m k =>
    have ok : 0 ≤ k ∧ k ≤ 10 ^ 30 := ok
    exact (Sms.tup (k := 0) (.cons (n := 11) (Sm.str (by decide +kernel)) (.cons (sm_nm 0 n) (.cons (sm_nm 0 m) (.cons (Sm.int (by omega) (by omega)) (.nil 0 0)))))).mono (Nat.le_refl _) (by decide)
  | alike n m => exact (Sms.tup (k := 0) (.cons (n := 11) (Sm.str (by decide +kernel)) (.cons (sm_nm 0 n) (.cons (sm_nm 0 m) (.nil 0 0))))).mono (Nat.le_refl _) (by decide)
  | below n k =>
    have ok : 0 ≤ k ∧ k ≤ 10 ^ 30 := ok
    exact (Sms.tup (k := 0) (.cons (n := 11) (Sm.str (by decide +kernel)) (.cons (sm_nm 0 n) (.cons (Sm.int (by omega) (by omega)) (.nil 0 0))))).mono (Nat.le_refl _) (by decide)
/-- what the desk tells, and the state -/
def seenD (st : Sta) (lo hi : Int) : PyData := .list [.tuple ((nmsS (st.tb.map (·.1))).map PyData.str), .tuple (st.cs.map fun x => cmD x.2), .int (st.past.length : Nat), .int (st.tb.length : Nat), .bool true, .tuple [.int lo, .int hi]]
theorem sm_seen {st : Sta} {H : Hp} (h : StOk 100 st) (hc : CsV H st.cs) {lo hi : Int} (hz : -3 ≤ lo ∧ lo ≤ hi ∧ hi ≤ 3) : Sm 60 300000 (seenD st lo hi) := by
  have h2 := names_two h.now.nd
  have h2' : st.tb.length ≤ 2 := h2
  have hl := h.len
  have hcl : st.cs.length ≤ 5 := h.now.cl
  have a1 : Sm 1 100 (.tuple ((nmsS (st.tb.map (·.1))).map PyData.str)) := by
    unfold nmsS
    by_cases c1 : false ∈ st.tb.map (·.1) <;> by_cases c2 : true ∈ st.tb.map (·.1)
    · rw [if_pos c1, if_pos c2]; exact (Sms.tup (k := 0) (.cons (sm_nm 0 false) (.cons (sm_nm 0 true) (.nil 0 0)))).mono (Nat.le_refl _) (by decide)
    · rw [if_pos c1, if_neg c2]; exact (Sms.tup (k := 0) (.cons (sm_nm 0 false) (.nil 0 0))).mono (Nat.le_refl _) (by decide)
    · rw [if_neg c1, if_pos c2]; exact (Sms.tup (k := 0) (.cons (sm_nm 0 true) (.nil 0 0))).mono (Nat.le_refl _) (by decide)
    · rw [if_neg c1, if_neg c2]; exact (Sms.tup (k := 0) (.nil 0 0)).mono (Nat.le_refl _) (by decide)
  have a2 : Sm 2 1005 (.tuple (st.cs.map fun x => cmD x.2)) := by
    refine (Sms.tup (Sms.all (k := 1) (n := 200) fun d hd => ?_)).mono (Nat.le_refl _) ?_
    · obtain ⟨x, hx, rfl⟩ := List.mem_map.mp hd
      exact sm_cm x.2 (hc x hx).2
    · rw [List.length_map]; omega
  have a6 : Sm 1 300 (.tuple [.int lo, .int hi]) := (Sms.tup (k := 0) (.cons (Sm.int (by omega) (by omega)) (.cons (Sm.int (by omega) (by omega)) (.nil 0 0)))).mono (Nat.le_refl _) (by decide)
  exact (Sms.lst (k := 2) (.cons (a1.mono (by decide) (Nat.le_refl _)) (.cons a2 (.cons ((Sm.int (k := 2) (by omega) (by omega))) (.cons ((Sm.int (k := 2) (by omega) (by omega))) (.cons (Sm.bl (n := 0) true) (.cons (a6.mono (by decide) (Nat.le_refl _)) (.nil 2 0)))))))).mono (by decide) (by decide)
def sp_law_same (K : PySem.W.Frag) : Sp := fun vs H Q _ => ∃ (M : List Addr) (dk bd L : Addr) (st : Sta) (lo hi : Int), vs = [.ref dk, .ref L] ∧ DkAt K (dl M H) H dk bd st ∧ LwAt K (dl M H) H L bd st ∧ BdAt H bd lo hi ∧ (-3 ≤ lo ∧ lo ≤ hi ∧ hi ≤ 3) ∧ StOk 100 st ∧
  ∀ H', Same H H' → Q (.bl true) H'
theorem sc_law_same : FnScope ["_law_desk", "_law_state", "_law_seen", "_law_name"] ["_law_desk", "_law_state"] (defScope s_law_same) := by walk_at "sc"
theorem ok_law_same (T : Tx w K mg) : FnG PG w K mg base 5 (ga K "_law_same") (sp_law_same K) := by
  obtain ⟨fd, F⟩ := T.fn _ m_law_same
  refine fn_mkG (at_ := d_law_same.at_) F (F.bindsN fun _ _ _ _ _ _ us hl => match us, hl with | [_, _], _ => rfl) sc_law_same (fun vs H Q E h => by obtain ⟨M, dk, bd, L, st, lo, hi, rfl, hD, hW, hbd, hz, ok, q⟩ := h; rfl) ?_
  intro cdv A outer s0 H vs Q E hcd hg hr h
  obtain ⟨_, F_Desk_getitem⟩ := T.fn _ m_Desk_getitem
  obtain ⟨M, dk, bd, L, st, lo, hi, rfl, hD, hW, hbd, hz, ok, q⟩ := h
  refine ⟨_, PSs.nox (pss_cons (ps_set (i := 2) sc_law_same.nd rfl (Or.inl rfl) (pe_lst (pa_cons (pe_pr (pv 0) (T.cls "Desk" (by decide +kernel)) (T.pr _ mg_Desk_names) (ok_Desk_names T) (hr.mono (by decide))) (pa_cons (pe_pr (pv 0) (T.cls "Desk" (by decide +kernel)) (T.pr _ mg_Desk_claims) (ok_Desk_claims T) (hr.mono (by decide))) (pa_cons (pe_pr (pv 0) (T.cls "Desk" (by decide +kernel)) (T.pr _ mg_Desk_changes) (ok_Desk_changes T) (hr.mono (by decide))) (pa_cons (pe_callB (call_lenC (spm_of T "Desk" "__len__") (ok_Desk_len T) (hr.mono (by decide))) rfl (T.f "len") (by decide +kernel) (pa_cons (pv 0) pa_nil)) (pa_cons (pe_callTy (call_boolC (spm_of T "Desk" "__bool__") (ok_Desk_bool T) (hr.mono (by decide))) rfl (T.f "bool") (by decide +kernel) (pa_cons (pv 0) pa_nil)) (pa_cons (pe_pr (pv 0) (T.cls "Desk" (by decide +kernel)) (T.pr _ mg_Desk_band) (ok_Desk_band T) (hr.mono (by decide))) pa_nil))))))))
    (pss_cons (ps_if (pt_cmpR op_ne (pe_callB (call_reprD hg (hu_le hr)) rfl (T.f "repr") (by decide +kernel) (pa_cons (pv 2) pa_nil)) (pe_callB (call_reprD hg (hu_le hr)) rfl (T.f "repr") (by decide +kernel) (pa_cons (pe_lst (pa_cons (pe_callTy call_tuple_of rfl (T.f "tuple") (by decide +kernel) (pa_cons (pe_callB (call_sortedD rfl) rfl (T.f "sorted") (by decide +kernel) (pa_cons (pe_ix ix_list (pv 1) pe_int (fun _ _ => rfl)) pa_nil)) pa_nil)) (pa_cons (pe_callTy call_tuple_of rfl (T.f "tuple") (by decide +kernel) (pa_cons (pe_ix ix_list (pv 1) pe_int (fun _ _ => rfl)) pa_nil)) (pa_cons (pe_callB call_len_seq rfl (T.f "len") (by decide +kernel) (pa_cons (pe_ix ix_list (pv 1) pe_int (fun _ _ => rfl)) pa_nil)) (pa_cons (pe_callB call_lenD rfl (T.f "len") (by decide +kernel) (pa_cons (pe_ix ix_list (pv 1) pe_int (fun _ _ => rfl)) pa_nil)) (pa_cons pe_bl (pa_cons (pe_ix ix_list (pv 1) pe_int (fun _ _ => rfl)) pa_nil))))))) pa_nil)) (nomark _)) (pss_one (ps_ret pe_bl)) pss_nil)
    (pss_one (ps_ret (pe_cmpR (op_eqD (hu_le hr)) (pe_lock (pe_lc (own := [("_law_name", 3)]) (g := gName 3) rfl sc_law_same.nd (pi_keys (pe_ix ix_list (pv 1) pe_int (fun _ _ => rfl))) (blkOk_by (N := ["_law_desk", "_law_state", "_law_seen", "_law_name"]) (sc := defScope s_law_same) (by decide +kernel)) (fun _ _ _ _ _ => (pg_name (i := 3) sc_law_same.nd rfl (Or.inl rfl))) (fun _ _ _ _ _ => (pts_one (PW.pt (pw_or (pt_cmpR op_ne (pe_callTy (call_strC (spm_of T "Clause" "__str__") (ok_Clause_str T) (hr.mono (by decide))) rfl (T.f "str") (by decide +kernel) (pa_cons (pe_ixown (spm_of T "Desk" "__getitem__") (fnIn_of F_Desk_getitem) (ok_Desk_getitem T) (hr.mono (by decide)) (pv 0) (pv 3)) pa_nil)) (pe_callTy (call_strC (spm_of T "Clause" "__str__") (ok_Clause_str T) (hr.mono (by decide))) rfl (T.f "str") (by decide +kernel) (pa_cons (pe_dget (hu_le hr) (pe_ix (ix_listK (K := K)) (pv 1) pe_int (fun _ _ => rfl)) (pv 3) (fun _ _ => rfl)) pa_nil)) (nomark _)) (pw_or1 (pt_cmpR (op_notInC (spm_of T "Desk" "__contains__") (ok_Desk_contains T) (hr.mono (by decide))) (pv 3) (pv 0) rfl)))))) (fun _ _ _ _ _ => (pv 3)))) (pe_lst pa_nil) (nomark _)))))), ?_⟩
  have hnd : (st.tb.map (·.1)).Nodup := ok.now.nd
  obtain ⟨dx, s, n, p, td, tc, pvs, hd, hpl⟩ := hD.h
  have zS : DkS K H dk dx bd s n p td tc := ⟨hd.hk, hd.hs, hd.hn⟩
  obtain ⟨d, a, h, hvs, hL, ⟨hT, hVt⟩, ⟨hA, hVc⟩, hh, hP⟩ := hW
  have hT := dl_le _ _ hT
  have hVt := hVt.mono dl_le
  have hA := dl_le _ _ hA
  have hVc := hVc.mono dl_le
  have hh := dl_le _ _ hh
  have hlv : hvs.length = st.past.length := Paired.length hP
  have hk := hd.hk
  walk_at "rd"
  refine ⟨dk, dx, bd, s, n, p, td, tc, st.tb, rfl, zS, hd.ht, hnd, fun H1 p1 S1 u1 => ?_⟩
  have hd1 := hd.mono S1
  have zS1 : DkS K H1 dk dx bd s n p td tc := ⟨hd1.hk, hd1.hs, hd1.hn⟩
  have hk1 := hd1.hk
  walk_at "rd"
  refine ⟨dk, dx, bd, s, n, p, td, tc, rfl, zS1, ?_⟩
  walk_at "rd"
  refine ⟨dk, dx, bd, s, n, p, td, tc, pvs, rfl, zS1, hd1.hp, ?_⟩
  walk_at "rd"
  refine ⟨dk, dx, bd, s, n, p, td, tc, tbK st.tb, rfl, zS1, hd1.ht, ⟨_, rfl, by have := names_two hnd; rw [tbK_len]; omega, ?_⟩⟩
  walk_at "rd"
  refine ⟨M, dk, bd, st, rfl, hD.same S1, ?_⟩
  walk_at "rd"
  refine ⟨by show 6 ≤ sizeLine; decide, fun p2 hp2 => ?_⟩
  generalize e2 : upd H1 p2 _ = H2
  have S2 : Same H1 H2 := e2 ▸ same_new hp2
  have S02 := S1.trans S2
  have u2 : H2 p2 = some (.lst [.ref p1, .ref tc, .int (pvs.length : Nat), .int ((tbK st.tb).length : Nat), .bl true, .ref bd]) := e2 ▸ upd_same
  have hd2 := hd1.mono S2
  have hsm := sm_seen (H := H) ok hVc hz
  obtain ⟨g1, g2, g3, g4⟩ := hsm.shown (Nat.le_refl _)
  have D1 : Dp K H2 (.ref p2) (seenD st lo hi) := by
    refine .lst (SqL.of u2) (.cons (.tup (SqT.of (S2 _ _ u1)) (dp_strs _)) (.cons (.tup (SqT.of hd2.hc) (dp_csR (hVc.mono S02))) (.cons ?_ (.cons ?_ (.cons (.bl true) (.cons (.tup (SqT.of (S02 _ _ hbd)) (.cons (.int _) (.cons (.int _) .nil))) .nil))))))
    · rw [hpl]; exact .int _
    · rw [tbK_len]; exact .int _
  have hL2 := S02 _ _ hL
  walk_at "rd"
  refine ⟨_, _, rfl, D1, g1, g2, g3, g4, ?_⟩
  walk_at "rd"
  refine ⟨d, _, _, rfl, .inl (S02 _ _ hT), tbK_keys _, nms_short hnd, fun ys p3 hp hs hp3 => ?_⟩
  rw [sorted_names hnd hp hs]
  generalize e3 : upd H2 p3 _ = H3
  have S3 : Same H2 H3 := e3 ▸ same_new hp3
  have u3 : H3 p3 = some (.lst ((nmsS (st.tb.map (·.1))).map V.str)) := e3 ▸ upd_same
  refine ⟨_, _, rfl, .inl ⟨SqL.of u3, fun p4 hp4 => ?_⟩⟩
  generalize e4 : upd H3 p4 _ = H4
  have S4 : Same H3 H4 := e4 ▸ same_new hp4
  have u4 : H4 p4 = some (.tup ((nmsS (st.tb.map (·.1))).map V.str)) := e4 ▸ upd_same
  have S04 := (S02.trans S3).trans S4
  have hL4 := S04 _ _ hL
  have hA4 := S04 _ _ hA
  walk_at "rd"
  refine ⟨_, _, rfl, .inl ⟨SqL.of hA4, fun p5 hp5 => ?_⟩⟩
  generalize e5 : upd H4 p5 _ = H5
  have S5 : Same H4 H5 := e5 ▸ same_new hp5
  have u5 : H5 p5 = some (.tup (csR st.cs)) := e5 ▸ upd_same
  have S05 := S04.trans S5
  have hL5 := S05 _ _ hL
  have hh5 := S05 _ _ hh
  have hT5 := S05 _ _ hT
  walk_at "rd"
  refine ⟨_, _, rfl, hT5, ?_⟩
  walk_at "rd"
  refine ⟨by show 6 ≤ sizeLine; decide, fun p6 hp6 => ?_⟩
  generalize e6 : upd H5 p6 _ = H6
  have S6 : Same H5 H6 := e6 ▸ same_new hp6
  have S06 := S05.trans S6
  have u6 : H6 p6 = some (.lst [.ref p4, .ref p5, .int (hvs.length : Nat), .int ((tbK st.tb).length : Nat), .bl true, .ref bd]) := e6 ▸ upd_same
  have D2 : Dp K H6 (.ref p6) (seenD st lo hi) := by
    refine .lst (SqL.of u6) (.cons (.tup (SqT.of (S6 _ _ (S5 _ _ u4))) (dp_strs _)) (.cons (.tup (SqT.of (S6 _ _ u5)) (dp_csR (hVc.mono S06))) (.cons ?_ (.cons ?_ (.cons (.bl true) (.cons (.tup (SqT.of (S06 _ _ hbd)) (.cons (.int _) (.cons (.int _) .nil))) .nil))))))
    · rw [hlv]; exact .int _
    · rw [tbK_len]; exact .int _
  refine ⟨_, _, rfl, D2, g1, g2, g3, g4, ?_⟩
  generalize (seenD st lo hi).shown = sh
  have hL6 := S06 _ _ hL
  have hT6 := S06 _ _ hT
  have zS6 : DkS K H6 dk dx bd s n p td tc := ⟨S06 _ _ hd.hk, S06 _ _ hd.hs, S06 _ _ hd.hn⟩
  have hk6 := zS6.1
  walk_at "rd"
  refine ⟨d, _, hT6, trivial, fun od => ?_⟩
  generalize eL : upd H6 d _ = HL
  have uL : HL d = some (.frz od (.dK (tbK st.tb))) := eL ▸ upd_same
  have LL : ∀ {b : Addr} {o : HO}, b ≠ d → H6 b = some o → HL b = some o := fun {b o} nb e => by rw [← eL, upd_ne nb]; exact e
  have zSL : DkS K HL dk dx bd s n p td tc := ⟨LL (ne_of hk6 hT6 (by simp)) hk6, LL (ne_of zS6.2.1 hT6 (by simp)) zS6.2.1, LL (ne_of zS6.2.2 hT6 (by simp)) zS6.2.2⟩
  have hLL := LL (ne_of hL6 hT6 (by simp)) hL6
  have hTL : Rd HL td (.dK (tbK st.tb)) := by
    by_cases c : td = d
    · rw [c]; exact .inr ⟨od, uL⟩
    · exact .inl (LL c (S06 _ _ hd.ht))
  have hVL : TbV K HL st.tb := fun x hx => by
    obtain ⟨⟨dy, t, k1, k2⟩, k3⟩ := (hVt.mono S06) x hx
    exact ⟨⟨dy, t, LL (ne_of k1 hT6 (by simp)) k1, LL (ne_of k2 hT6 (by simp)) k2⟩, k3⟩
  walk_at "rd"
  refine ⟨_, od, rfl, .inl ⟨_, uL, ?_⟩⟩
  refine fun D hD => lc_it (walk_keys) (fun i H7 => Same HL H7 ∧ H7 D = some (.lst [])) ⟨same_new hD, upd_same⟩ (fun _ _ _ h => h.1 _ _ uL) (fun i x H7 H8 hi h hy => ?_) fun H7 h => ?_
  · obtain ⟨S7, f7⟩ := h
    obtain ⟨rfl, k, v, hkv, rfl⟩ := hy
    have hi' : i < st.tb.length := by rw [tbK_len] at hi; exact hi
    have hti : st.tb[i]? = some st.tb[i] := List.getElem?_eq_getElem hi'
    unfold tbK at hkv
    rw [List.getElem?_map, hti] at hkv
    obtain ⟨rfl, rfl⟩ := Prod.mk.inj (Option.some.inj hkv)
    have hmem := List.getElem_mem hi'
    have hget := getT_mem hnd hmem
    have hcl := hVL _ hmem
    generalize (st.tb[i] : Nm × (Nat × Pt)) = y at hget hcl
    have zS8 : DkS K H8 dk dx bd s n p td tc := ⟨S7 _ _ zSL.1, S7 _ _ zSL.2.1, S7 _ _ zSL.2.2⟩
    have hk8 := zS8.1
    have hL8 := S7 _ _ hLL
    have hc8 := hcl.1.mono S7
    walk_at "rd"
    refine ⟨dk, dx, bd, s, n, p, td, tc, st.tb, y.1, y.2.1, y.2.2, rfl, zS8, K56.Rd.mono S7 hTL, hget, ?_⟩
    obtain ⟨dy, t8, k1, k2⟩ := id hc8
    walk_at "rd"
    refine ⟨hcl.2, fun H9 S9 => ⟨_, rfl, ?_⟩⟩
    have hL9 := S9 _ _ hL8
    have S79 := S7.trans S9
    have zS9 : DkS K H9 dk dx bd s n p td tc := ⟨S79 _ _ zSL.1, S79 _ _ zSL.2.1, S79 _ _ zSL.2.2⟩
    have u9 := S79 _ _ uL
    have g9 := dget_tb (.inr ⟨od, u9⟩) y.1
    rw [hget] at g9
    have k19 := S9 _ _ k1
    walk_at "rd"
    have hc9 := hc8.mono S9
    refine ⟨_, _, rfl, g9, ?_⟩
    walk_at "rd"
    refine ⟨hcl.2, fun H10 S10 => ⟨_, rfl, ?_⟩⟩
    have S710 := S79.trans S10
    have zS10 : DkS K H10 dk dx bd s n p td tc := ⟨S710 _ _ zSL.1, S710 _ _ zSL.2.1, S710 _ _ zSL.2.2⟩
    have hk10 := zS10.1
    walk_at "rd"
    refine ⟨dk, dx, bd, s, n, p, td, tc, st.tb, y.1, rfl, zS10, K56.Rd.mono S710 hTL, ?_⟩
    rw [show hasT st.tb y.1 = true by unfold hasT; rw [hget]; rfl]
    refine ⟨_, rfl, _, rfl, ?_⟩
    refine ite_f rfl ?_
    exact ⟨S710, S10 _ _ (S9 _ _ f7)⟩
  · obtain ⟨S7, f7⟩ := h
    have DtD : D ≠ d := fun e => by
      rw [e, uL] at hD
      cases hD
    refine ⟨S7 _ _ uL, ?_⟩
    generalize eU : upd H7 d _ = U
    have S3 : Same H6 U := fun b o e => by
      by_cases c : b = d
      · rw [c] at e ⊢
        rw [← eU, upd_same, ← e, hT6]
      · rw [← eU, upd_ne c]
        exact S7 _ _ (LL c e)
    have vD : U D = some (.lst []) := by rw [← eU, upd_ne DtD]; exact f7
    walk_at "rd"
    refine ⟨by show 0 ≤ sizeLine; decide, fun p9 hp9 => ?_⟩
    generalize e9 : upd U p9 _ = H9
    have S9 : Same U H9 := e9 ▸ same_new hp9
    have u9 : H9 p9 = some (.lst []) := e9 ▸ upd_same
    exact ⟨.list [], .list [], .lst (SqL.of (S9 _ _ vD)) .nil, .lst (SqL.of u9) .nil, rfl, rfl, q H9 ((S06.trans S3).trans S9)⟩
end
end K56
namespace K56
open PySem PySem.Spec PyProof.Rows L2 LiI
local macro_rules | `(tactic| walk_at "rd") => `(tactic| repeat (first | (refine ⟨_, rfl, ?_⟩) | (refine ⟨_, _, rfl, rfl, ?_⟩) | (refine ⟨rfl, ?_⟩) | (refine ⟨_, (by assumption : _ = some (HO.tup _)), ?_⟩) | (refine ⟨_, _, _, _, rfl, rfl, SqT.of (by assumption), rfl, ?_⟩) | (refine ⟨_, _, _, _, rfl, rfl, SqL.of (by assumption), rfl, ?_⟩) | (refine ⟨_, _, rfl, .inr (SqT.of (by assumption)), ?_⟩) | (refine ⟨_, _, rfl, .inl (SqL.of (by assumption)), ?_⟩) | (refine ⟨_, _, rfl, SqT.of (by assumption), rfl, ?_⟩) | (refine ⟨_, _, _, _, _, rfl, (by assumption : _ = some (HO.ins _ _ _)), Tx.cls (by assumption) _ (by decide +kernel), Tx.noat (by assumption) _ _ (by decide +kernel), rfl, ?_⟩) | (refine ⟨_, _, _, rfl, (by assumption : _ = some (HO.ins _ _ _)), _, _, rfl, (by assumption : ClAt _ _ _ _), ?_⟩) | (refine ⟨_, _, _, _, rfl, (by assumption : _ = some (HO.ins _ _ _)), Tx.cls (by assumption) _ (by decide +kernel), Tx.noat (by assumption) _ _ (by decide +kernel), Nat.le_of_ble_eq_true rfl, ?_⟩) | (refine ⟨_, _, rfl, SqT.of (by assumption), ?_⟩) | (refine ⟨_, _, rfl, SqL.of (by assumption), ?_⟩) | (refine ⟨_, _, rfl, ?_⟩) | (refine ⟨_, _, _, rfl, (by assumption : _ = some (HO.ins _ _ _)), ?_⟩) | (refine ⟨_, _, _, rfl, (by assumption : _ = some (HO.tup _)), ?_⟩) | (refine ⟨_, _, _, rfl, (by assumption : ClAt _ _ _ _), ?_⟩) | (refine ⟨_, _, _, _, _, rfl, (by assumption : ClAt _ _ _ _), (by assumption : _ = some (HO.tup _)), ?_⟩) | (refine ⟨.inl ⟨rfl, _, SqL.of (by assumption)⟩, ?_⟩) | (refine ⟨⟨_, SqL.of (by assumption)⟩, ?_⟩) | (refine ⟨⟨_, SqT.of (by assumption)⟩, ?_⟩) | (with_reducible refine ite_t ?kc ?kg; (case kc => simp; done)) | (with_reducible refine ite_f ?kc ?kg; (case kc => simp; done))))
local macro_rules | `(tactic| walk_at "sc") => `(tactic| exact ⟨rfl, rfl, rfl, by decide +kernel, rfl, by decide +kernel, by decide +kernel⟩)
/-- a deed, a tuple -/
def ddV : Dd → List V
  | .put n a _ => [.str "put", .str (nmS n), .ref a]
  | .claim a _ => [.str "claim", .ref a, .non]
  | .remove n => [.str "remove", .str (nmS n), .non]
  | .lift i => [.str "lift", .int i, .non]
  | .undo => [.str "undo", .non, .non]
def DdAt (K : PySem.W.Frag) (G : Hp) (p : Addr) (d : Dd) : Prop := G p = some (.tup (ddV d)) ∧ match d with
  | .put _ a c => ClAt K G a c ∧ Ok c
  | .claim a c => CmAt G a c ∧ c.ok
  | _ => True
theorem DdAt.mono {K : PySem.W.Frag} {G G' : Hp} (e : Same G G') {p : Addr} {d : Dd} (h : DdAt K G p d) : DdAt K G' p d := by
  obtain ⟨h1, h2⟩ := h
  refine ⟨e _ _ h1, ?_⟩
  cases d with
  | put n a c => exact ⟨h2.1.mono e, h2.2⟩
  | claim a c => exact ⟨e _ _ h2.1, h2.2⟩
  | _ => trivial
theorem tbK_nd {t : Tb} (hn : (t.map (·.1)).Nodup) : ((tbK t).map (·.1)).Nodup := by
  rw [tbK_keys]
  have h1 : ((t.map (·.1)).map nmS).Nodup := List.pairwise_map.mpr (List.Pairwise.imp (fun {a b} (hab : a ≠ b) e => hab (nmS_inj.mp e)) hn)
  exact List.pairwise_map.mpr (List.Pairwise.imp (fun {a b} (hab : a ≠ b) e => hab (Sum.inr.inj e)) h1)
theorem merge_tb {t : Tb} (hn : (t.map (·.1)).Nodup) : mergeK [] (tbK t) = tbK t := by
  rw [mergeK_app _ _ (by rw [List.nil_append]; exact tbK_nd hn), List.nil_append]
theorem merge_put {t : Tb} (hn : (t.map (·.1)).Nodup) (n : Nm) (a : Nat × Pt) : mergeK [] (tbK t ++ [(.inr (nmS n), .ref a.1)]) = tbK (putT t n a) := by
  have h := merge_tb hn
  unfold mergeK at h ⊢
  rw [List.foldl_append, h, ← tbK_put]
  rfl
theorem csR_app (cs ds : Cs) : csR (cs ++ ds) = csR cs ++ csR ds := by unfold csR; rw [List.map_append]
theorem csR_len (cs : Cs) : (csR cs).length = cs.length := by unfold csR; rw [List.length_map]
theorem tb_take {t : Tb} {i : Nat} (hi : i < t.length) : t.take (i + 1) = t.take i ++ [t[i]] := by rw [List.take_add_one, List.getElem?_eq_getElem hi]; rfl
theorem drop_take {t : Tb} (n : Nm) {i : Nat} (hi : i < t.length) : dropT (t.take (i + 1)) n = if t[i].1 = n then dropT (t.take i) n else dropT (t.take i) n ++ [t[i]] := by
  rw [tb_take hi]
  unfold dropT
  rw [List.filter_append]
  by_cases c : t[i].1 = n <;> simp [c]
theorem drop_nd {t : Tb} (hn : (t.map (·.1)).Nodup) (n : Nm) : ((dropT t n).map (·.1)).Nodup := List.Nodup.sublist (List.Sublist.map _ List.filter_sublist) hn
section
variable {w : World} {K : PySem.W.Frag} {mg : Str → Option Value} {base : Heap}
theorem dl_st {M : List Addr} {L b : Addr} {H : Hp} {o u : HO} (hM : L ∈ M) (hb : b ∉ M) (h : H b = some o) : dl M (upd H L u) b = some o := by
  rw [dl_upd_in hM, dl_out hb]
  exact h
def sp_law_become (K : PySem.W.Frag) : Sp := fun vs H Q _ => ∃ (M : List Addr) (L bd de : Addr) (st : Sta) (ms : List Int) (dd : Dd), vs = [.ref L, .ref de] ∧ L ∈ M ∧ Lv M H ∧ LwAt K (dl M H) H L bd st ∧ DdAt K (dl M H) de dd ∧ StOk 100 st ∧ due ms st dd = none ∧
  ∀ H', Fr L H H' → LwAt K (dl M H') H' L bd (K56.become st dd) → Q .non H'
theorem sc_law_become : FnScope ["_law_state", "_law_deed", "_law_word", "_law_thing", "_law_fresh", "_law_last", "_law_name"] ["_law_state", "_law_deed"] (defScope s_law_become) := by walk_at "sc"
theorem ok_law_become (T : Tx w K mg) : Fn PG w K mg base 1 (ga K "_law_become") (sp_law_become K) := by
  obtain ⟨fd, F⟩ := T.fn _ m_law_become
  refine fn_mk F (F.bindsN fun _ _ _ _ _ _ us hl => match us, hl with | [_, _], _ => rfl) sc_law_become (fun vs H Q E h => by obtain ⟨M, L, bd, de, st, ms, dd, rfl, hM, hL, hW, ⟨hde, hdd⟩, ok, hdue, q⟩ := h; rfl) ?_
  intro cdv A outer s H vs Q E hr h
  refine ⟨_, PSs.nox (pss_cons (ps_asg (pv 1) (pg_tup rfl (pgs_cons (pg_name (i := 2) sc_law_become.nd rfl (Or.inl rfl)) (pgs_cons (pg_name (i := 3) sc_law_become.nd rfl (Or.inr rfl)) (pgs_cons (pg_name (i := 4) sc_law_become.nd rfl (Or.inl rfl)) pgs_nil)))))
    (pss_cons (ps_if (pt_cmpR op_eq (pv 2) pe_str (nomark _)) (pss_cons (ps_set (i := 5) sc_law_become.nd rfl (Or.inl rfl) (pe_ix ix_list (pe_ix ix_list (pv 0) pe_int (fun _ _ => rfl)) (pe_un un_neg pe_int) (fun _ _ => rfl)))
    (pss_cons (ps_asg (pe_tup (pa_cons (pe_ix ix_tup (pv 5) pe_int (fun _ _ => rfl)) (pa_cons (pe_ix ix_tup (pv 5) pe_int (fun _ _ => rfl)) (pa_cons (pe_slice sl_list (pe_ix ix_list (pv 0) pe_int (fun _ _ => rfl)) po_none (po_some (pe_un un_neg pe_int))) pa_nil)))) (pg_tup rfl (pgs_cons (pg_sub (pv 0) pe_int set_list) (pgs_cons (pg_sub (pv 0) pe_int set_list) (pgs_cons (pg_sub (pv 0) pe_int set_list) pgs_nil)))))
    (pss_one (ps_ret pe_non)))) pss_nil)
    (pss_cons (ps_asg (pe_op op_cat (pe_ix ix_list (pv 0) pe_int (fun _ _ => rfl)) (pe_lst (pa_cons (pe_tup (pa_cons (pe_ix ix_list (pv 0) pe_int (fun _ _ => rfl)) (pa_cons (pe_ix ix_list (pv 0) pe_int (fun _ _ => rfl)) pa_nil))) pa_nil))) (pg_sub (pv 0) pe_int set_list))
    (pss_cons (ps_if (pt_cmpR op_eq (pv 2) pe_str (nomark _)) (pss_one (ps_asg (pe_callTy (call_dictP rfl) rfl (T.f "dict") (by decide +kernel) (pa_cons (pe_op op_cat (pe_listItems rfl (pe_ix ix_list (pv 0) pe_int (fun _ _ => rfl)) rfl (T.f "list") (by decide +kernel)) (pe_lst (pa_cons (pe_tup (pa_cons (pv 3) (pa_cons (pv 4) pa_nil))) pa_nil))) pa_nil)) (pg_sub (pv 0) pe_int set_list))) pss_nil)
    (pss_cons (ps_if (pt_cmpR op_eq (pv 2) pe_str (nomark _)) (pss_one (ps_asg (pe_callTy (call_dictP rfl) rfl (T.f "dict") (by decide +kernel) (pa_cons (pe_lock (pe_lc (own := [("_law_name", 6)]) (g := gName 6) rfl sc_law_become.nd (pi_keys (pe_ix ix_list (pv 0) pe_int (fun _ _ => rfl))) (blkOk_by (N := ["_law_state", "_law_deed", "_law_word", "_law_thing", "_law_fresh", "_law_last", "_law_name"]) (sc := defScope s_law_become) (by decide +kernel)) (fun _ _ _ _ _ => (pg_name (i := 6) sc_law_become.nd rfl (Or.inl rfl))) (fun _ _ _ _ _ => (pts_one (pt_cmpR op_ne (pv 6) (pv 3) (nomark _)))) (fun _ _ _ _ _ => (pe_tup (pa_cons (pv 6) (pa_cons (pe_dget (hu_le hr) (pe_ix (ix_listK (K := K)) (pv 0) pe_int (fun _ _ => rfl)) (pv 6) (fun _ _ => rfl)) pa_nil)))))) pa_nil)) (pg_sub (pv 0) pe_int set_list))) pss_nil)
    (pss_cons (ps_if (pt_cmpR op_eq (pv 2) pe_str (nomark _)) (pss_one (ps_asg (pe_op op_cat (pe_ix ix_list (pv 0) pe_int (fun _ _ => rfl)) (pe_lst (pa_cons (pv 3) pa_nil))) (pg_sub (pv 0) pe_int set_list))) pss_nil)
    (pss_cons (ps_if (pt_cmpR op_eq (pv 2) pe_str (nomark _)) (pss_one (ps_asg (pe_op op_cat (pe_slice sl_list (pe_ix ix_list (pv 0) pe_int (fun _ _ => rfl)) po_none (po_some (pv 3))) (pe_slice sl_list (pe_ix ix_list (pv 0) pe_int (fun _ _ => rfl)) (po_some (pe_op op_add (pv 3) pe_int)) po_none)) (pg_sub (pv 0) pe_int set_list))) pss_nil)
    (pss_one (ps_ret pe_non))))))))), ?_⟩
  obtain ⟨M, L, bd, de, st, ms, dd, rfl, hM, hL, hW, ⟨hde, hdd⟩, ok, hdue, q⟩ := h
  have hnd : (st.tb.map (·.1)).Nodup := ok.now.nd
  have h2 := names_two hnd
  have hlen := ok.len
  have hcl : st.cs.length ≤ 5 := ok.now.cl
  obtain ⟨d, a, h, hvs, hl, hS⟩ := hW
  obtain ⟨hT, hA, hh, hP⟩ := id hS
  have hlv : hvs.length = st.past.length := Paired.length hP
  have zde := dl_le _ _ hde
  have zT := dl_le _ _ hT.1
  have zA := dl_le _ _ hA.1
  have zh := dl_le _ _ hh
  have zV := hT.2.mono dl_le
  walk_at "rd"
  cases dd with
  | undo =>
    have zde : H de = some (.tup [.str "undo", .non, .non]) := zde
    have hne : st.past ≠ [] := fun e => by
      have hd : (if st.past = [] then some Due.nothing else none) = none := hdue
      rw [if_pos e] at hd
      cases hd
    rcases snoc_cases st.past with hp0 | ⟨pre, la, hp0⟩
    · exact absurd hp0 hne
    · rw [hp0] at hP
      obtain ⟨pvs, z, rfl, h7b, n9, d9, a9, rfl, h9, hT9, hA9⟩ := Paired.unsnoc hP
      walk_at "rd"
      refine ⟨_, _, _, _, rfl, rfl, SqL.of zh, atI_last _ _, ?_⟩
      have z9 := dl_le _ _ h9
      walk_at "rd"
      refine fun p1 hp1 => ?_
      rw [cut_last]
      generalize e1 : upd H p1 _ = H1
      have S1 : Same H H1 := e1 ▸ same_new hp1
      have u1 : H1 p1 = some (.lst pvs) := e1 ▸ upd_same
      have hl1 := S1 _ _ hl
      walk_at "rd"
      refine ⟨by show 3 ≤ sizeLine; decide, fun p2 hp2 => ?_⟩
      generalize e2 : upd H1 p2 _ = H2
      have S2 : Same H1 H2 := e2 ▸ same_new hp2
      have u2 : H2 p2 = some (.tup [.ref d9, .ref a9, .ref p1]) := e2 ▸ upd_same
      have hl2 := S2 _ _ hl1
      walk_at "rd"
      refine ⟨_, _, _, _, rfl, rfl, hl2, rfl, ?_⟩
      generalize e3 : upd H2 L _ = H3
      have f3 : Fr L H2 H3 := e3 ▸ Fr.upd
      have u3 : H3 L = some (.lst [.ref d9, .ref a, .ref h, .ref bd]) := e3 ▸ upd_same
      walk_at "rd"
      refine ⟨_, _, _, _, rfl, rfl, u3, rfl, ?_⟩
      generalize e4 : upd H3 L _ = H4
      have f4 : Fr L H3 H4 := e4 ▸ Fr.upd
      have u4 : H4 L = some (.lst [.ref d9, .ref a9, .ref h, .ref bd]) := e4 ▸ upd_same
      walk_at "rd"
      refine ⟨_, _, _, _, rfl, rfl, u4, rfl, ?_⟩
      generalize e5 : upd H4 L _ = H5
      have f5 : Fr L H4 H5 := e5 ▸ Fr.upd
      have u5 : H5 L = some (.lst [.ref d9, .ref a9, .ref p1, .ref bd]) := e5 ▸ upd_same
      have F05 : Fr L H H5 := (((Fr.of (S1.trans S2)).trans f3).trans f4).trans f5
      have G5 : Same (dl M H) (dl M H5) := F05.dl hM
      have p1M : p1 ∉ M := hL.out hp1
      have n1 : p1 ≠ L := fun z => p1M (z ▸ hM)
      have v1 : dl M H5 p1 = some (.lst pvs) := dl_at p1M (f5 _ _ n1 (f4 _ _ n1 (f3 _ _ n1 (S2 _ _ u1))))
      have hbec : K56.become st .undo = ⟨la.1, la.2, pre⟩ := by
        show (match st.past.getLast? with | some (t, c) => _ | none => _) = _
        rw [hp0, List.getLast?_concat, List.dropLast_concat]
      walk_at "rd"
      refine q H5 F05 ?_
      rw [hbec]
      exact ⟨d9, a9, p1, pvs, u5, hT9.mono G5, hA9.mono G5, v1, K56.Paired.imp (fun _ _ z => LeAt.mono G5 z) h7b⟩
  | put n b c =>
    have zde : H de = some (.tup [.str "put", .str (nmS n), .ref b]) := zde
    have hdd : ClAt K (dl M H) b c ∧ Ok c := hdd
    walk_at "rd"
    refine ⟨by show 2 ≤ sizeLine; decide, fun n1 hn1 => ?_⟩
    generalize e1 : upd H n1 _ = H1
    have S1 : Same H H1 := e1 ▸ same_new hn1
    have u1 : H1 n1 = some (.tup [.ref d, .ref a]) := e1 ▸ upd_same
    walk_at "rd"
    refine ⟨by show 1 ≤ sizeLine; decide, fun p1 hp1 => ?_⟩
    generalize e2 : upd H1 p1 _ = H2
    have S2 : Same H1 H2 := e2 ▸ same_new hp1
    have u2 : H2 p1 = some (.lst [.ref n1]) := e2 ▸ upd_same
    have zh2 := S2 _ _ (S1 _ _ zh)
    refine ⟨_, _, _, _, rfl, rfl, zh2, u2, by rw [hlv, sizeLine_eq]; show _ + 1 ≤ _; omega, fun p2 hp2 => ?_⟩
    generalize e3 : upd H2 p2 _ = H3
    have S3 : Same H2 H3 := e3 ▸ same_new hp2
    have u3 : H3 p2 = some (.lst (hvs ++ [.ref n1])) := e3 ▸ upd_same
    have S03 := (S1.trans S2).trans S3
    have hl3 := S03 _ _ hl
    walk_at "rd"
    refine ⟨_, _, _, _, rfl, rfl, hl3, rfl, ?_⟩
    generalize e4 : upd H3 L _ = H4
    have f4 : Fr L H3 H4 := e4 ▸ Fr.upd
    have u4 : H4 L = some (.lst [.ref d, .ref a, .ref p2, .ref bd]) := e4 ▸ upd_same
    have F04 : Fr L H H4 := (Fr.of S03).trans f4
    have G4 : Same (dl M H) (dl M H4) := F04.dl hM
    have n1M : n1 ∉ M := hL.out hn1
    have p2M : p2 ∉ M := ((hL.same S1).same S2).out hp2
    have v1 : dl M H4 n1 = some (.tup [.ref d, .ref a]) := dl_at n1M (f4 _ _ (fun z => n1M (z ▸ hM)) (S3 _ _ (S2 _ _ u1)))
    have v2 : dl M H4 p2 = some (.lst (hvs ++ [.ref n1])) := dl_at p2M (f4 _ _ (fun z => p2M (z ▸ hM)) u3)
    have L4 : Lv M H4 := by rw [← e4]; exact (hL.same S03).upd
    have hpush : Paired (LeAt K (dl M H4)) (hvs ++ [.ref n1]) st.push := Paired.snoc (K56.Paired.imp (fun _ _ z => LeAt.mono G4 z) hP) ⟨n1, d, a, rfl, v1, hT.mono G4, hA.mono G4⟩
    have T4 := hT.mono G4
    have A4 := hA.mono G4
    have zT4 := dl_le _ _ T4.1
    have zA4 := dl_le _ _ A4.1
    clear e1 e2 e3 e4
    walk_at "rd"
    refine ⟨d, tbK st.tb, rfl, zT4, fun H5 p5 as S5 hp5 has hpn u5 pr5 => ?_⟩
    have S5 : Same H4 H5 := S5
    walk_at "rd"
    refine ⟨by show 2 ≤ sizeLine; decide, fun n6 hn6 => ?_⟩
    generalize e6 : upd H5 n6 _ = H6
    have S6 : Same H5 H6 := e6 ▸ same_new hn6
    have u6 : H6 n6 = some (.tup [.str (nmS n), .ref b]) := e6 ▸ upd_same
    walk_at "rd"
    refine ⟨by show 1 ≤ sizeLine; decide, fun p7 hp7 => ?_⟩
    generalize e7 : upd H6 p7 _ = H7
    have S7 : Same H6 H7 := e7 ▸ same_new hp7
    have u7 : H7 p7 = some (.lst [.ref n6]) := e7 ▸ upd_same
    have u57 := S7 _ _ (S6 _ _ u5)
    have las : as.length = st.tb.length := by rw [Paired.length pr5, tbK_len]
    refine ⟨_, _, _, _, rfl, rfl, u57, u7, by rw [List.length_map, las, sizeLine_eq]; show _ + 1 ≤ _; omega, fun p8 hp8 => ?_⟩
    generalize e8 : upd H7 p8 _ = H8
    have S8 : Same H7 H8 := e8 ▸ same_new hp8
    have u8 : H8 p8 = some (.lst ((as ++ [n6]).map V.ref)) := by rw [← e8, upd_same, List.map_append]; rfl
    have S58 := (S6.trans S7).trans S8
    have pr8 : Paired (fun (p : Addr) (kv : Key × V) => SqT K H8 p [kV kv.1, kv.2]) (as ++ [n6]) (tbK st.tb ++ [(.inr (nmS n), .ref b)]) :=
      Paired.snoc (K56.Paired.imp (fun _ _ z => SqT.of (S58 _ _ z)) pr5) (SqT.of (S8 _ _ (S7 _ _ u6)))
    refine ⟨p8, as ++ [n6], _, rfl, SqL.of u8, pr8, fun p9 hp9 => ?_⟩
    rw [merge_put hnd n (b, c)]
    generalize e9 : upd H8 p9 _ = H9
    have S9 : Same H8 H9 := e9 ▸ same_new hp9
    have u9 : H9 p9 = some (.dK (tbK (putT st.tb n (b, c)))) := e9 ▸ upd_same
    have S49 := (S5.trans S58).trans S9
    have hl9 := S49 _ _ u4
    walk_at "rd"
    refine ⟨_, _, _, _, rfl, rfl, hl9, rfl, ?_⟩
    generalize e10 : upd H9 L _ = HA
    have fA : Fr L H9 HA := e10 ▸ Fr.upd
    have uA : HA L = some (.lst [.ref p9, .ref a, .ref p2, .ref bd]) := e10 ▸ upd_same
    have F4A : Fr L H4 HA := (Fr.of S49).trans fA
    have GA : Same (dl M H4) (dl M HA) := F4A.dl hM
    have p9M : p9 ∉ M := (L4.same (S5.trans S58)).out hp9
    have v9 : dl M HA p9 = some (.dK (tbK (putT st.tb n (b, c)))) := dl_at p9M (fA _ _ (fun z => p9M (z ▸ hM)) u9)
    walk_at "rd"
    refine q HA (F04.trans F4A) ⟨p9, a, p2, hvs ++ [.ref n1], uA, ⟨v9, fun x hx => ?_⟩, A4.mono GA, GA _ _ v2, K56.Paired.imp (fun _ _ z => LeAt.mono GA z) hpush⟩
    rcases mem_put hx with z | z
    · exact (T4.mono GA).2 x z
    · rw [z]
      exact ⟨hdd.1.mono (G4.trans GA), hdd.2⟩
  | remove n =>
    have zde : H de = some (.tup [.str "remove", .str (nmS n), .non]) := zde
    walk_at "rd"
    refine ⟨by show 2 ≤ sizeLine; decide, fun n1 hn1 => ?_⟩
    generalize e1 : upd H n1 _ = H1
    have S1 : Same H H1 := e1 ▸ same_new hn1
    have u1 : H1 n1 = some (.tup [.ref d, .ref a]) := e1 ▸ upd_same
    walk_at "rd"
    refine ⟨by show 1 ≤ sizeLine; decide, fun p1 hp1 => ?_⟩
    generalize e2 : upd H1 p1 _ = H2
    have S2 : Same H1 H2 := e2 ▸ same_new hp1
    have u2 : H2 p1 = some (.lst [.ref n1]) := e2 ▸ upd_same
    have zh2 := S2 _ _ (S1 _ _ zh)
    refine ⟨_, _, _, _, rfl, rfl, zh2, u2, by rw [hlv, sizeLine_eq]; show _ + 1 ≤ _; omega, fun p2 hp2 => ?_⟩
    generalize e3 : upd H2 p2 _ = H3
    have S3 : Same H2 H3 := e3 ▸ same_new hp2
    have u3 : H3 p2 = some (.lst (hvs ++ [.ref n1])) := e3 ▸ upd_same
    have S03 := (S1.trans S2).trans S3
    have hl3 := S03 _ _ hl
    walk_at "rd"
    refine ⟨_, _, _, _, rfl, rfl, hl3, rfl, ?_⟩
    generalize e4 : upd H3 L _ = H4
    have f4 : Fr L H3 H4 := e4 ▸ Fr.upd
    have u4 : H4 L = some (.lst [.ref d, .ref a, .ref p2, .ref bd]) := e4 ▸ upd_same
    have F04 : Fr L H H4 := (Fr.of S03).trans f4
    have G4 : Same (dl M H) (dl M H4) := F04.dl hM
    have n1M : n1 ∉ M := hL.out hn1
    have p2M : p2 ∉ M := ((hL.same S1).same S2).out hp2
    have v1 : dl M H4 n1 = some (.tup [.ref d, .ref a]) := dl_at n1M (f4 _ _ (fun z => n1M (z ▸ hM)) (S3 _ _ (S2 _ _ u1)))
    have v2 : dl M H4 p2 = some (.lst (hvs ++ [.ref n1])) := dl_at p2M (f4 _ _ (fun z => p2M (z ▸ hM)) u3)
    have L4 : Lv M H4 := by rw [← e4]; exact (hL.same S03).upd
    have hpush : Paired (LeAt K (dl M H4)) (hvs ++ [.ref n1]) st.push := Paired.snoc (K56.Paired.imp (fun _ _ z => LeAt.mono G4 z) hP) ⟨n1, d, a, rfl, v1, hT.mono G4, hA.mono G4⟩
    have T4 := hT.mono G4
    have A4 := hA.mono G4
    have zT4 := dl_le _ _ T4.1
    have zA4 := dl_le _ _ A4.1
    clear e1 e2 e3 e4
    walk_at "rd"
    refine ⟨d, _, zT4, trivial, fun od => ?_⟩
    generalize eL : upd H4 d _ = HL
    have uL : HL d = some (.frz od (.dK (tbK st.tb))) := eL ▸ upd_same
    have LL : ∀ {b : Addr} {o : HO}, b ≠ d → H4 b = some o → HL b = some o := fun {b o} nb e => by rw [← eL, upd_ne nb]; exact e
    have hLL := LL (ne_of u4 zT4 (by simp)) u4
    walk_at "rd"
    refine ⟨_, od, rfl, .inl ⟨_, uL, ?_⟩⟩
    refine fun D hD => lc_it (walk_keys) (fun i H7 => Same HL H7 ∧ ∃ as : List Addr, H7 D = some (.lst (as.map V.ref)) ∧ Paired (fun (p : Addr) (kv : Key × V) => H7 p = some (.tup [kV kv.1, kv.2])) as (tbK (dropT (st.tb.take i) n))) ⟨same_new hD, [], upd_same, .nil⟩ (fun _ _ _ h => h.1 _ _ uL) (fun i x H7 H8 hi h hy => ?_) fun H7 h => ?_
    · obtain ⟨S7, as, f7, pr7⟩ := h
      obtain ⟨rfl, k, v, hkv, rfl⟩ := hy
      have hi' : i < st.tb.length := by rw [tbK_len] at hi; exact hi
      have hti : st.tb[i]? = some st.tb[i] := List.getElem?_eq_getElem hi'
      unfold tbK at hkv
      rw [List.getElem?_map, hti] at hkv
      obtain ⟨rfl, rfl⟩ := Prod.mk.inj (Option.some.inj hkv)
      have hget := getT_mem hnd (List.getElem_mem hi')
      have hdr := drop_take n hi'
      have hlt : (dropT (st.tb.take i) n).length ≤ 2 := by
        have z := List.length_filter_le (fun p => decide (p.1 ≠ n)) (st.tb.take i)
        rw [List.length_take] at z
        unfold dropT
        omega
      rw [hdr]
      generalize (st.tb[i] : Nm × (Nat × Pt)) = y at hget
      have hL8 := S7 _ _ hLL
      have u8 := S7 _ _ uL
      walk_at "rd"
      by_cases c : y.1 = n
      · rw [if_pos c]
        refine ite_f (by rw [c]; simp [kV]) ?_
        exact ⟨S7, as, f7, pr7⟩
      · rw [if_neg c]
        refine ite_t (by simp only [kV, V.str.injEq, nmS_inj]; simpa using c) ?_
        walk_at "rd"
        have g1 := dget_tb (.inr ⟨od, u8⟩) y.1
        rw [hget] at g1
        refine ⟨_, _, rfl, g1, ?_⟩
        walk_at "rd"
        refine ⟨by show 2 ≤ sizeLine; decide, fun n9 hn9 => ?_⟩
        generalize e9 : upd H8 n9 _ = H9
        have S9 : Same H8 H9 := e9 ▸ same_new hn9
        have u9 : H9 n9 = some (.tup [.str (nmS y.1), .ref y.2.1]) := e9 ▸ upd_same
        have nD : n9 ≠ D := fun z => by rw [z, f7] at hn9; cases hn9
        refine ⟨_, S9 _ _ f7, ?_, fun b u e2 => ?_, as ++ [n9], ?_, ?_⟩
        · rw [List.length_map, Paired.length pr7, tbK_len, sizeLine_eq]
          omega
        · rw [upd_ne (ne_of_none e2 hD)]
          exact (S7.trans S9) _ _ e2
        · rw [upd_same, List.map_append]
          rfl
        · have e9 : tbK (dropT (st.tb.take i) n ++ [y]) = tbK (dropT (st.tb.take i) n) ++ [(.inr (nmS y.1), .ref y.2.1)] := by unfold tbK; rw [List.map_append]; rfl
          rw [e9]
          refine Paired.snoc (K56.Paired.imp (fun p kv z => ?_) pr7) ?_
          · rw [upd_ne (fun e => by rw [e, f7] at z; cases z)]
            exact S9 _ _ z
          · rw [upd_ne nD]
            exact u9
    · obtain ⟨S7, as, f7, pr7⟩ := h
      rw [tbK_len, List.take_length] at pr7
      have DtD : D ≠ d := fun e => by
        rw [e, uL] at hD
        cases hD
      refine ⟨S7 _ _ uL, ?_⟩
      generalize eU : upd H7 d _ = U
      have S4U : Same H4 U := fun b o e => by
        by_cases c : b = d
        · rw [c] at e ⊢
          rw [← eU, upd_same, ← e, zT4]
        · rw [← eU, upd_ne c]
          exact S7 _ _ (LL c e)
      have vD : U D = some (.lst (as.map V.ref)) := by rw [← eU, upd_ne DtD]; exact f7
      have prU : Paired (fun (p : Addr) (kv : Key × V) => SqT K U p [kV kv.1, kv.2]) as (tbK (dropT st.tb n)) :=
        K56.Paired.imp (fun p kv z => SqT.of (by rw [← eU, upd_ne (fun e => by rw [e, S7 _ _ uL] at z; cases z)]; exact z)) pr7
      refine ⟨D, as, _, rfl, SqL.of vD, prU, fun p9 hp9 => ?_⟩
      rw [merge_tb (drop_nd hnd n)]
      generalize e9 : upd U p9 _ = H9
      have S9 : Same U H9 := e9 ▸ same_new hp9
      have u9 : H9 p9 = some (.dK (tbK (dropT st.tb n))) := e9 ▸ upd_same
      have S49 := S4U.trans S9
      have hl9 := S49 _ _ u4
      walk_at "rd"
      refine ⟨_, _, _, _, rfl, rfl, hl9, rfl, ?_⟩
      generalize e10 : upd H9 L _ = HA
      have fA : Fr L H9 HA := e10 ▸ Fr.upd
      have uA : HA L = some (.lst [.ref p9, .ref a, .ref p2, .ref bd]) := e10 ▸ upd_same
      have F4A : Fr L H4 HA := (Fr.of S49).trans fA
      have GA : Same (dl M H4) (dl M HA) := F4A.dl hM
      have p9M : p9 ∉ M := (L4.same S4U).out hp9
      have v9 : dl M HA p9 = some (.dK (tbK (dropT st.tb n))) := dl_at p9M (fA _ _ (fun z => p9M (z ▸ hM)) u9)
      walk_at "rd"
      refine q HA (F04.trans F4A) ⟨p9, a, p2, hvs ++ [.ref n1], uA, ⟨v9, fun x hx => ?_⟩, A4.mono GA, GA _ _ v2, K56.Paired.imp (fun _ _ z => LeAt.mono GA z) hpush⟩
      exact (T4.mono GA).2 x (List.mem_filter.mp hx).1
  | claim b c =>
    have zde : H de = some (.tup [.str "claim", .ref b, .non]) := zde
    have hdd : CmAt (dl M H) b c ∧ c.ok := hdd
    walk_at "rd"
    refine ⟨by show 2 ≤ sizeLine; decide, fun n1 hn1 => ?_⟩
    generalize e1 : upd H n1 _ = H1
    have S1 : Same H H1 := e1 ▸ same_new hn1
    have u1 : H1 n1 = some (.tup [.ref d, .ref a]) := e1 ▸ upd_same
    walk_at "rd"
    refine ⟨by show 1 ≤ sizeLine; decide, fun p1 hp1 => ?_⟩
    generalize e2 : upd H1 p1 _ = H2
    have S2 : Same H1 H2 := e2 ▸ same_new hp1
    have u2 : H2 p1 = some (.lst [.ref n1]) := e2 ▸ upd_same
    have zh2 := S2 _ _ (S1 _ _ zh)
    refine ⟨_, _, _, _, rfl, rfl, zh2, u2, by rw [hlv, sizeLine_eq]; show _ + 1 ≤ _; omega, fun p2 hp2 => ?_⟩
    generalize e3 : upd H2 p2 _ = H3
    have S3 : Same H2 H3 := e3 ▸ same_new hp2
    have u3 : H3 p2 = some (.lst (hvs ++ [.ref n1])) := e3 ▸ upd_same
    have S03 := (S1.trans S2).trans S3
    have hl3 := S03 _ _ hl
    walk_at "rd"
    refine ⟨_, _, _, _, rfl, rfl, hl3, rfl, ?_⟩
    generalize e4 : upd H3 L _ = H4
    have f4 : Fr L H3 H4 := e4 ▸ Fr.upd
    have u4 : H4 L = some (.lst [.ref d, .ref a, .ref p2, .ref bd]) := e4 ▸ upd_same
    have F04 : Fr L H H4 := (Fr.of S03).trans f4
    have G4 : Same (dl M H) (dl M H4) := F04.dl hM
    have n1M : n1 ∉ M := hL.out hn1
    have p2M : p2 ∉ M := ((hL.same S1).same S2).out hp2
    have v1 : dl M H4 n1 = some (.tup [.ref d, .ref a]) := dl_at n1M (f4 _ _ (fun z => n1M (z ▸ hM)) (S3 _ _ (S2 _ _ u1)))
    have v2 : dl M H4 p2 = some (.lst (hvs ++ [.ref n1])) := dl_at p2M (f4 _ _ (fun z => p2M (z ▸ hM)) u3)
    have L4 : Lv M H4 := by rw [← e4]; exact (hL.same S03).upd
    have hpush : Paired (LeAt K (dl M H4)) (hvs ++ [.ref n1]) st.push := Paired.snoc (K56.Paired.imp (fun _ _ z => LeAt.mono G4 z) hP) ⟨n1, d, a, rfl, v1, hT.mono G4, hA.mono G4⟩
    have T4 := hT.mono G4
    have A4 := hA.mono G4
    have zT4 := dl_le _ _ T4.1
    have zA4 := dl_le _ _ A4.1
    clear e1 e2 e3 e4
    walk_at "rd"
    refine ⟨by show 1 ≤ sizeLine; decide, fun p5 hp5 => ?_⟩
    generalize e5 : upd H4 p5 _ = H5
    have S5 : Same H4 H5 := e5 ▸ same_new hp5
    have u5 : H5 p5 = some (.lst [.ref b]) := e5 ▸ upd_same
    have zA5 := S5 _ _ zA4
    refine ⟨_, _, _, _, rfl, rfl, zA5, u5, by rw [csR_len, sizeLine_eq]; show _ + 1 ≤ _; omega, fun p6 hp6 => ?_⟩
    generalize e6 : upd H5 p6 _ = H6
    have S6 : Same H5 H6 := e6 ▸ same_new hp6
    have u6 : H6 p6 = some (.lst (csR (st.cs ++ [(b, c)]))) := by rw [← e6, upd_same, csR_app]; rfl
    have S46 := S5.trans S6
    have hl6 := S46 _ _ u4
    walk_at "rd"
    refine ⟨_, _, _, _, rfl, rfl, hl6, rfl, ?_⟩
    generalize e10 : upd H6 L _ = HA
    have fA : Fr L H6 HA := e10 ▸ Fr.upd
    have uA : HA L = some (.lst [.ref d, .ref p6, .ref p2, .ref bd]) := e10 ▸ upd_same
    have F4A : Fr L H4 HA := (Fr.of S46).trans fA
    have GA : Same (dl M H4) (dl M HA) := F4A.dl hM
    have p6M : p6 ∉ M := (L4.same S5).out hp6
    have v6 : dl M HA p6 = some (.lst (csR (st.cs ++ [(b, c)]))) := dl_at p6M (fA _ _ (fun z => p6M (z ▸ hM)) u6)
    walk_at "rd"
    refine q HA (F04.trans F4A) ⟨d, p6, p2, hvs ++ [.ref n1], uA, T4.mono GA, ⟨v6, fun x hx => ?_⟩, GA _ _ v2, K56.Paired.imp (fun _ _ z => LeAt.mono GA z) hpush⟩
    rcases List.mem_append.mp hx with z | z
    · exact (A4.mono GA).2 x z
    · rw [List.mem_singleton] at z
      rw [z]
      exact ⟨(G4.trans GA) _ _ hdd.1, hdd.2⟩
  | lift i =>
    have zde : H de = some (.tup [.str "lift", .int i, .non]) := zde
    have hr0 : 0 ≤ i ∧ i < st.cs.length := by
      have hd : (if 0 ≤ i ∧ i < st.cs.length then none else some (Due.place i)) = none := hdue
      split at hd
      · assumption
      · cases hd
    obtain ⟨k, rfl⟩ := Int.eq_ofNat_of_zero_le hr0.1
    have hk : k < st.cs.length := by omega
    have hk' : k < (csR st.cs).length := by rw [csR_len]; exact hk
    walk_at "rd"
    refine ⟨by show 2 ≤ sizeLine; decide, fun n1 hn1 => ?_⟩
    generalize e1 : upd H n1 _ = H1
    have S1 : Same H H1 := e1 ▸ same_new hn1
    have u1 : H1 n1 = some (.tup [.ref d, .ref a]) := e1 ▸ upd_same
    walk_at "rd"
    refine ⟨by show 1 ≤ sizeLine; decide, fun p1 hp1 => ?_⟩
    generalize e2 : upd H1 p1 _ = H2
    have S2 : Same H1 H2 := e2 ▸ same_new hp1
    have u2 : H2 p1 = some (.lst [.ref n1]) := e2 ▸ upd_same
    have zh2 := S2 _ _ (S1 _ _ zh)
    refine ⟨_, _, _, _, rfl, rfl, zh2, u2, by rw [hlv, sizeLine_eq]; show _ + 1 ≤ _; omega, fun p2 hp2 => ?_⟩
    generalize e3 : upd H2 p2 _ = H3
    have S3 : Same H2 H3 := e3 ▸ same_new hp2
    have u3 : H3 p2 = some (.lst (hvs ++ [.ref n1])) := e3 ▸ upd_same
    have S03 := (S1.trans S2).trans S3
    have hl3 := S03 _ _ hl
    walk_at "rd"
    refine ⟨_, _, _, _, rfl, rfl, hl3, rfl, ?_⟩
    generalize e4 : upd H3 L _ = H4
    have f4 : Fr L H3 H4 := e4 ▸ Fr.upd
    have u4 : H4 L = some (.lst [.ref d, .ref a, .ref p2, .ref bd]) := e4 ▸ upd_same
    have F04 : Fr L H H4 := (Fr.of S03).trans f4
    have G4 : Same (dl M H) (dl M H4) := F04.dl hM
    have n1M : n1 ∉ M := hL.out hn1
    have p2M : p2 ∉ M := ((hL.same S1).same S2).out hp2
    have v1 : dl M H4 n1 = some (.tup [.ref d, .ref a]) := dl_at n1M (f4 _ _ (fun z => n1M (z ▸ hM)) (S3 _ _ (S2 _ _ u1)))
    have v2 : dl M H4 p2 = some (.lst (hvs ++ [.ref n1])) := dl_at p2M (f4 _ _ (fun z => p2M (z ▸ hM)) u3)
    have L4 : Lv M H4 := by rw [← e4]; exact (hL.same S03).upd
    have hpush : Paired (LeAt K (dl M H4)) (hvs ++ [.ref n1]) st.push := Paired.snoc (K56.Paired.imp (fun _ _ z => LeAt.mono G4 z) hP) ⟨n1, d, a, rfl, v1, hT.mono G4, hA.mono G4⟩
    have T4 := hT.mono G4
    have A4 := hA.mono G4
    have zT4 := dl_le _ _ T4.1
    have zA4 := dl_le _ _ A4.1
    clear e1 e2 e3 e4
    walk_at "rd"
    refine fun p5 hp5 => ?_
    rw [cut_to _ hk']
    generalize e5 : upd H4 p5 _ = H5
    have S5 : Same H4 H5 := e5 ▸ same_new hp5
    have u5 : H5 p5 = some (.lst ((csR st.cs).take k)) := e5 ▸ upd_same
    have zA5 := S5 _ _ zA4
    have hl5 := S5 _ _ u4
    walk_at "rd"
    refine fun p6 hp6 => ?_
    rw [show ((k : Int) + 1) = ((k + 1 : Nat) : Int) by omega, cut_from _ hk']
    generalize e6 : upd H5 p6 _ = H6
    have S6 : Same H5 H6 := e6 ▸ same_new hp6
    have u6 : H6 p6 = some (.lst ((csR st.cs).drop (k + 1))) := e6 ▸ upd_same
    have u56 := S6 _ _ u5
    refine ⟨_, _, _, _, rfl, rfl, u56, u6, by rw [List.length_take, List.length_drop, csR_len, sizeLine_eq]; omega, fun p7 hp7 => ?_⟩
    generalize e7 : upd H6 p7 _ = H7
    have S7 : Same H6 H7 := e7 ▸ same_new hp7
    have u7 : H7 p7 = some (.lst (csR (st.cs.take k ++ st.cs.drop (k + 1)))) := by rw [← e7, upd_same, csR_app]; unfold csR; rw [List.map_take, List.map_drop]
    have S47 := (S5.trans S6).trans S7
    have hl7 := S47 _ _ u4
    walk_at "rd"
    refine ⟨_, _, _, _, rfl, rfl, hl7, rfl, ?_⟩
    generalize e10 : upd H7 L _ = HA
    have fA : Fr L H7 HA := e10 ▸ Fr.upd
    have uA : HA L = some (.lst [.ref d, .ref p7, .ref p2, .ref bd]) := e10 ▸ upd_same
    have F4A : Fr L H4 HA := (Fr.of S47).trans fA
    have GA : Same (dl M H4) (dl M HA) := F4A.dl hM
    have p7M : p7 ∉ M := (L4.same (S5.trans S6)).out hp7
    have v7 : dl M HA p7 = some (.lst (csR (st.cs.take k ++ st.cs.drop (k + 1)))) := dl_at p7M (fA _ _ (fun z => p7M (z ▸ hM)) u7)
    walk_at "rd"
    refine q HA (F04.trans F4A) ⟨d, p7, p2, hvs ++ [.ref n1], uA, T4.mono GA, ⟨v7, fun x hx => ?_⟩, GA _ _ v2, K56.Paired.imp (fun _ _ z => LeAt.mono GA z) hpush⟩
    rcases List.mem_append.mp hx with z | z
    · exact (A4.mono GA).2 x (List.mem_of_mem_take z)
    · exact (A4.mono GA).2 x (List.mem_of_mem_drop z)
end
end K56
namespace K56
open PySem PySem.Spec PyProof.Rows L2 LiI
local macro_rules | `(tactic| walk_at "rd") => `(tactic| repeat (first | (refine ⟨_, rfl, ?_⟩) | (refine ⟨_, _, rfl, rfl, ?_⟩) | (refine ⟨rfl, ?_⟩) | (refine ⟨_, (by assumption : _ = some (HO.tup _)), ?_⟩) | (refine ⟨_, _, _, _, rfl, rfl, SqT.of (by assumption), rfl, ?_⟩) | (refine ⟨_, _, _, _, rfl, rfl, SqL.of (by assumption), rfl, ?_⟩) | (refine ⟨_, _, rfl, .inr (SqT.of (by assumption)), ?_⟩) | (refine ⟨_, _, rfl, .inl (SqL.of (by assumption)), ?_⟩) | (refine ⟨_, _, rfl, SqT.of (by assumption), rfl, ?_⟩) | (refine ⟨_, _, _, _, _, rfl, (by assumption : _ = some (HO.ins _ _ _)), Tx.cls (by assumption) _ (by decide +kernel), Tx.noat (by assumption) _ _ (by decide +kernel), rfl, ?_⟩) | (refine ⟨_, _, _, rfl, (by assumption : _ = some (HO.ins _ _ _)), _, _, rfl, (by assumption : ClAt _ _ _ _), ?_⟩) | (refine ⟨_, _, _, _, rfl, (by assumption : _ = some (HO.ins _ _ _)), Tx.cls (by assumption) _ (by decide +kernel), Tx.noat (by assumption) _ _ (by decide +kernel), Nat.le_of_ble_eq_true rfl, ?_⟩) | (refine ⟨_, _, rfl, SqT.of (by assumption), ?_⟩) | (refine ⟨_, _, rfl, SqL.of (by assumption), ?_⟩) | (refine ⟨_, _, rfl, ?_⟩) | (refine ⟨_, _, _, rfl, (by assumption : _ = some (HO.ins _ _ _)), ?_⟩) | (refine ⟨_, _, _, rfl, (by assumption : _ = some (HO.tup _)), ?_⟩) | (refine ⟨_, _, _, rfl, (by assumption : ClAt _ _ _ _), ?_⟩) | (refine ⟨_, _, _, _, _, rfl, (by assumption : ClAt _ _ _ _), (by assumption : _ = some (HO.tup _)), ?_⟩) | (refine ⟨.inl ⟨rfl, _, SqL.of (by assumption)⟩, ?_⟩) | (refine ⟨⟨_, SqL.of (by assumption)⟩, ?_⟩) | (refine ⟨⟨_, SqT.of (by assumption)⟩, ?_⟩) | (with_reducible refine ite_t ?kc ?kg; (case kc => simp; done)) | (with_reducible refine ite_f ?kc ?kg; (case kc => simp; done))))
local macro_rules | `(tactic| walk_at "sc") => `(tactic| exact ⟨rfl, rfl, rfl, by decide +kernel, rfl, by decide +kernel, by decide +kernel⟩)
theorem isSp_at {cs : Cs} {i : Nat} (n : Nm) (hi : i < cs.length) : isSp cs n i = decide (n ∈ cs[i].2.names) := by
  unfold isSp
  rw [List.getElem?_eq_getElem hi]
/-- the spots up to i -/
def spotsTo (cs : Cs) (n : Nm) (i : Nat) : List Nat := (List.range i).filter (isSp cs n)
theorem spotsTo_succ {cs : Cs} {n : Nm} {i : Nat} : spotsTo cs n (i + 1) = if isSp cs n i = true then spotsTo cs n i ++ [i] else spotsTo cs n i := by
  unfold spotsTo
  rw [List.range_succ, List.filter_append]
  by_cases c : isSp cs n i = true
  · rw [if_pos c, List.filter_cons_of_pos c, List.filter_nil]
  · rw [if_neg c, List.filter_cons_of_neg c, List.filter_nil, List.append_nil]
def natV (l : List Nat) : List V := l.map fun k => .int (k : Nat)
theorem natV_len (l : List Nat) : (natV l).length = l.length := by unfold natV; rw [List.length_map]
theorem spotsTo_len (cs : Cs) (n : Nm) (i : Nat) : (spotsTo cs n i).length ≤ i := by
  have := List.length_filter_le (isSp cs n) (List.range i)
  rw [List.length_range] at this
  exact this
theorem dp_nats (K : PySem.W.Frag) (H : Hp) : ∀ l : List Nat, DpAll K H (natV l) (l.map fun k => PyData.int (k : Nat))
  | [] => .nil
  | k :: l => .cons (.int _) (dp_nats K H l)
theorem nats_shaped (l : List Nat) : SeqAt.shaped (.list (l.map fun k => PyData.int (k : Nat))) = true := by
  have e : (l.map fun k => PyData.int (k : Nat)) = (l.map fun k => ((k : Nat) : Int)).map PyData.int := by rw [List.map_map]; rfl
  rw [e]
  obtain ⟨h1, h2⟩ := lay_ints (l.map fun k => ((k : Nat) : Int))
  unfold SeqAt.shaped
  have e1 : PyData.canLay0 (.list ((l.map fun k => ((k : Nat) : Int)).map PyData.int)) = PyData.canLayAll0 ((l.map fun k => ((k : Nat) : Int)).map PyData.int) := rfl
  have e2 : PyData.depth (.list ((l.map fun k => ((k : Nat) : Int)).map PyData.int)) = PyData.depthAll ((l.map fun k => ((k : Nat) : Int)).map PyData.int) + 1 := rfl
  rw [e1, e2, h1, h2]
  rfl
theorem nats_eqv (l : List Nat) : PyData.eqv (.list (l.map fun k => PyData.int (k : Nat))) (.list []) = l.isEmpty := by
  cases l <;> rfl
theorem brkL_one (t : Tb) (ms : List Int) (cs : Cs) (a : Nat) (c : Cm) : brkL t ms (cs ++ [(a, c)]) [cs.length] = (faultC t ms c).map (.broken cs.length) := by
  unfold brkL
  rw [List.getElem?_append_right (Nat.le_refl _), Nat.sub_self]
  show (match faultC t ms c with | some f => some (Due.broken cs.length f) | none => brkL t ms (cs ++ [(a, c)]) []) = _
  cases faultC t ms c <;> rfl
section
variable {w : World} {K : PySem.W.Frag} {mg : Str → Option Value} {base : Heap}
def sp_law_due_deed (K : PySem.W.Frag) : Sp := fun vs H Q _ => ∃ (M : List Addr) (L bd de : Addr) (st : Sta) (lo hi : Int) (dd : Dd), vs = [.ref L, .ref de] ∧ LwAt K (dl M H) H L bd st ∧ DdAt K (dl M H) de dd ∧ BdAt H bd lo hi ∧ (-3 ≤ lo ∧ lo ≤ hi ∧ hi ≤ 3 ∧ hi - lo ≤ 2) ∧ StOk 100 st ∧
  ∀ H' p, Same H H' → DuAt H' p (due (moves lo hi) st dd) → Q (.ref p) H'
theorem sc_law_due_deed : FnScope ["_law_state", "_law_deed", "_law_word", "_law_thing", "_law_fresh", "_law_k", "_law_spots", "_law_used", "_law_name"] ["_law_state", "_law_deed"] (defScope s_law_due_deed) := by walk_at "sc"
theorem ok_law_due_deed (T : Tx w K mg) : Fn PG w K mg base 15 (ga K "_law_due_deed") (sp_law_due_deed K) := by
  obtain ⟨fd, F⟩ := T.fn _ m_law_due_deed
  refine fn_mk F (F.bindsN fun _ _ _ _ _ _ us hl => match us, hl with | [_, _], _ => rfl) sc_law_due_deed (fun vs H Q E h => by obtain ⟨M, L, bd, de, st, lo, hi, dd, rfl, hW, ⟨hde, hdd⟩, hbd, hz, ok, q⟩ := h; rfl) ?_
  intro cdv A outer s H vs Q E hr h
  refine ⟨_, PSs.nox (pss_cons (ps_asg (pv 1) (pg_tup rfl (pgs_cons (pg_name (i := 2) sc_law_due_deed.nd rfl (Or.inl rfl)) (pgs_cons (pg_name (i := 3) sc_law_due_deed.nd rfl (Or.inr rfl)) (pgs_cons (pg_name (i := 4) sc_law_due_deed.nd rfl (Or.inl rfl)) pgs_nil)))))
    (pss_cons (ps_if (pt_cmpR op_eq (pv 2) pe_str (nomark _)) (pss_one (ps_ret (pe_ifExp (pt_cmpR (op_eqE (hu_le (c := 0) hr)) (pe_ix ix_list (pv 0) pe_int (fun _ _ => rfl)) (pe_lst pa_nil) (nomark _)) (pe_lst (pa_cons pe_str pa_nil)) (pe_lst pa_nil)))) pss_nil)
    (pss_cons (ps_if (pt_cmpR op_eq (pv 2) pe_str (nomark _)) (pss_cons (ps_setLc (i := 6) (own := [("_law_k", 5)]) (g := gName 5) rfl sc_law_due_deed.nd rfl rfl (sw_true rfl rfl rfl (by decide +kernel)) (pi_range1 rfl (T.f "range") (pa_cons (pe_callB call_len_seq rfl (T.f "len") (by decide +kernel) (pa_cons (pe_ix ix_list (pv 0) pe_int (fun _ _ => rfl)) pa_nil)) pa_nil)) (blkOk_by (N := ["_law_state", "_law_deed", "_law_word", "_law_thing", "_law_fresh", "_law_k", "_law_spots", "_law_used", "_law_name"]) (sc := defScope s_law_due_deed) (by decide +kernel)) (fun _ _ _ _ _ => (pg_name (i := 5) sc_law_due_deed.nd rfl (Or.inl rfl))) (fun _ _ _ _ _ => (pts_one (pt_cmpR (op_in_seqK (K := K)) (pv 3) (pe_cl (ok_law_names T) (hr.mono (by decide)) (T.g "_law_names") (T.kp _ m_law_names) (fun _ => pas0) (pa_cons (pe_ix (ix_listK (K := K)) (pe_ix (ix_listK (K := K)) (pv 0) pe_int (fun _ _ => rfl)) (pv 5) (fun _ _ => rfl)) pa_nil)) rfl))) (fun _ _ _ _ _ => (pv 5)))
    (pss_one (ps_ret (pe_cl (ok_law_broken T) (hr.mono (by decide)) (T.g "_law_broken") (T.kp _ m_law_broken) (fun _ => pas0) (pa_cons (pe_callTy (call_dictP rfl) rfl (T.f "dict") (by decide +kernel) (pa_cons (pe_op op_cat (pe_listItems rfl (pe_ix ix_list (pv 0) pe_int (fun _ _ => rfl)) rfl (T.f "list") (by decide +kernel)) (pe_lst (pa_cons (pe_tup (pa_cons (pv 3) (pa_cons (pv 4) pa_nil))) pa_nil))) pa_nil)) (pa_cons (pe_ix ix_list (pv 0) pe_int (fun _ _ => rfl)) (pa_cons (pe_ix ix_list (pv 0) pe_int (fun _ _ => rfl)) (pa_cons (pv 6) pa_nil)))))))) pss_nil)
    (pss_cons (ps_if (pt_cmpR op_eq (pv 2) pe_str (nomark _)) (pss_one (ps_ret (pe_ifExp (pt_chain op_le op_lt pe_int (pv 3) (pe_callB call_len_seq rfl (T.f "len") (by decide +kernel) (pa_cons (pe_ix ix_list (pv 0) pe_int (fun _ _ => rfl)) pa_nil))) (pe_lst pa_nil) (pe_lst (pa_cons pe_str (pa_cons (pv 3) pa_nil)))))) pss_nil)
    (pss_cons (ps_if (pt_cmpR op_eq (pv 2) pe_str (nomark _)) (pss_cons (ps_if (pt_cmp (pc_dnotin (hu_le hr) (pv 3) (pe_ix ix_list (pv 0) pe_int (fun _ _ => rfl)))) (pss_one (ps_ret (pe_lst (pa_cons pe_str (pa_cons (pv 3) pa_nil))))) pss_nil)
    (pss_cons (ps_setLc (i := 7) (own := [("_law_k", 5)]) (g := gName 5) rfl sc_law_due_deed.nd rfl rfl (sw_true rfl rfl rfl (by decide +kernel)) (pi_range1 rfl (T.f "range") (pa_cons (pe_callB call_len_seq rfl (T.f "len") (by decide +kernel) (pa_cons (pe_ix ix_list (pv 0) pe_int (fun _ _ => rfl)) pa_nil)) pa_nil)) (blkOk_by (N := ["_law_state", "_law_deed", "_law_word", "_law_thing", "_law_fresh", "_law_k", "_law_spots", "_law_used", "_law_name"]) (sc := defScope s_law_due_deed) (by decide +kernel)) (fun _ _ _ _ _ => (pg_name (i := 5) sc_law_due_deed.nd rfl (Or.inl rfl))) (fun _ _ _ _ _ => (pts_one (pt_cmpR (op_in_seqK (K := K)) (pv 3) (pe_cl (ok_law_names T) (hr.mono (by decide)) (T.g "_law_names") (T.kp _ m_law_names) (fun _ => pas0) (pa_cons (pe_ix (ix_listK (K := K)) (pe_ix (ix_listK (K := K)) (pv 0) pe_int (fun _ _ => rfl)) (pv 5) (fun _ _ => rfl)) pa_nil)) rfl))) (fun _ _ _ _ _ => (pv 5)))
    (pss_one (ps_ret (pe_ifExp (pt_cmpR (op_neD (hu_le hr)) (pv 7) (pe_lst pa_nil) (nomark _)) (pe_lst (pa_cons pe_str (pa_cons (pe_ix ix_list (pv 7) pe_int (fun _ _ => rfl)) pa_nil))) (pe_lst pa_nil)))))) pss_nil)
    (pss_cons (ps_for PassesOwn.never rfl (pi_list (pe_cl (ok_law_names T) (hr.mono (by decide)) (T.g "_law_names") (T.kp _ m_law_names) (fun _ => pas0) (pa_cons (pv 3) pa_nil))) (pg_name (i := 8) sc_law_due_deed.nd rfl (Or.inl rfl)) (pss_one (ps_if (pt_cmp (pc_dnotin (hu_le hr) (pv 8) (pe_ix ix_list (pv 0) pe_int (fun _ _ => rfl)))) (pss_one (ps_ret (pe_lst (pa_cons pe_str (pa_cons (pv 8) pa_nil))))) pss_nil)))
    (pss_one (ps_ret (pe_cl (ok_law_broken T) (hr.mono (by decide)) (T.g "_law_broken") (T.kp _ m_law_broken) (fun _ => pas0) (pa_cons (pe_ix ix_list (pv 0) pe_int (fun _ _ => rfl)) (pa_cons (pe_ix ix_list (pv 0) pe_int (fun _ _ => rfl)) (pa_cons (pe_op op_cat (pe_ix ix_list (pv 0) pe_int (fun _ _ => rfl)) (pe_lst (pa_cons (pv 3) pa_nil))) (pa_cons (pe_lst (pa_cons (pe_callB call_len_seq rfl (T.f "len") (by decide +kernel) (pa_cons (pe_ix ix_list (pv 0) pe_int (fun _ _ => rfl)) pa_nil)) pa_nil)) pa_nil))))))))))))), ?_⟩
  obtain ⟨M, L, bd, de, st, lo, hi, dd, rfl, hW, ⟨hde, hdd⟩, hbd, hz, ok, q⟩ := h
  have hnd : (st.tb.map (·.1)).Nodup := ok.now.nd
  have h2 := names_two hnd
  have hlen := ok.len
  have hcl : st.cs.length ≤ 5 := ok.now.cl
  obtain ⟨d, a, h, hvs, hl, hS⟩ := hW
  obtain ⟨hT, hA, hh, hP⟩ := id hS
  have hlv : hvs.length = st.past.length := Paired.length hP
  have zde := dl_le _ _ hde
  have zT := dl_le _ _ hT.1
  have zA := dl_le _ _ hA.1
  have zh := dl_le _ _ hh
  have zV := hT.2.mono dl_le
  have zC := hA.2.mono dl_le
  walk_at "rd"
  cases dd with
  | undo =>
    have zde : H de = some (.tup [.str "undo", .non, .non]) := zde
    walk_at "rd"
    refine ⟨by show 0 ≤ sizeLine; decide, fun p1 hp1 => ?_⟩
    generalize e1 : upd H p1 _ = H1
    have S1 : Same H H1 := e1 ▸ same_new hp1
    have u1 : H1 p1 = some (.lst []) := e1 ▸ upd_same
    refine ⟨h, p1, hvs, rfl, rfl, .inr ⟨SqL.of (S1 _ _ zh), SqL.of u1⟩, _, rfl, ?_⟩
    have hdu : due (moves lo hi) st .undo = if st.past = [] then some Due.nothing else none := rfl
    cases hvs with
    | nil =>
      have e0 : st.past = [] := List.eq_nil_of_length_eq_zero hlv.symm
      rw [if_pos e0] at hdu
      refine ite_t rfl ?_
      walk_at "rd"
      exact ⟨by show 1 ≤ sizeLine; decide, fun p hp => q _ p (S1.trans (same_new hp)) (by rw [hdu]; exact upd_same)⟩
    | cons z zs =>
      have e0 : st.past ≠ [] := fun e => by rw [e] at hlv; cases hlv
      rw [if_neg e0] at hdu
      refine ite_f rfl ?_
      walk_at "rd"
      exact ⟨by show 0 ≤ sizeLine; decide, fun p hp => q _ p (S1.trans (same_new hp)) (by rw [hdu]; exact upd_same)⟩
  | put n b c =>
    have zde : H de = some (.tup [.str "put", .str (nmS n), .ref b]) := zde
    have hdd : ClAt K (dl M H) b c ∧ Ok c := hdd
    have hdu : due (moves lo hi) st (.put n b c) = brkL (putT st.tb n (b, c)) (moves lo hi) st.cs (spots st.cs n) := (spots_brk _ _ _ _).symm
    rw [hdu] at q
    walk_at "rd"
    refine ⟨by rw [csR_len]; omega, by rw [csR_len]; omega, fun D hD => lc_it walk_range (fun i H1 => Same H H1 ∧ H1 D = some (.lst (natV (spotsTo st.cs n i)))) ⟨same_new hD, upd_same⟩ (fun _ _ _ _ => True.intro) (fun i x H1 H2 hi h hy => ?_) fun H1 h => ?_⟩
    · obtain ⟨e, hx0⟩ := hy
      have hx0 : x = .int (i : Nat) := by
        rw [hx0]
        show V.int (0 + (i : Int)) = _
        rw [Int.zero_add]
      subst hx0
      subst H2
      obtain ⟨S1, f1⟩ := h
      have hi' : i < st.cs.length := by
        have z : i < (csR st.cs).length := by simpa using hi
        rwa [csR_len] at z
      have hci : st.cs[i]? = some st.cs[i] := List.getElem?_eq_getElem hi'
      have hax : (csR st.cs)[i]? = some (.ref st.cs[i].1) := by unfold csR; rw [List.getElem?_map, hci]; rfl
      have hxm := zC _ (List.getElem_mem hi')
      have hsp := isSp_at n hi'
      have hnx := spotsTo_succ (cs := st.cs) (n := n) (i := i)
      have hln := spotsTo_len st.cs n i
      generalize (st.cs[i] : Nat × Cm) = x at hax hxm hsp
      have hl1 := S1 _ _ hl
      have zA1 := S1 _ _ zA
      have hc1 := S1 _ _ hxm.1
      walk_at "rd"
      refine ⟨_, _, _, _, rfl, rfl, SqL.of zA1, atI_nat hax, ?_⟩
      walk_at "rd"
      refine ⟨x.1, x.2, rfl, hc1, fun p1 hp1 => ?_⟩
      generalize e2 : upd H1 p1 _ = H2
      have S2 : Same H1 H2 := e2 ▸ same_new hp1
      have u2 : H2 p1 = some (.lst (nmL x.2.names)) := e2 ▸ upd_same
      have f2 := S2 _ _ f1
      have S02 := S1.trans S2
      rw [hnx, hsp]
      walk_at "rd"
      refine ⟨flat_names _, ?_⟩
      have hin := inV_names n x.2.names
      by_cases c : n ∈ x.2.names
      · refine ⟨_, rfl, ?_⟩
        refine ite_t (by simpa [hin] using c) ?_
        rw [if_pos (decide_eq_true c)]
        walk_at "rd"
        refine ⟨_, f2, by rw [natV_len, sizeLine_eq]; omega, fun b u e2 => ?_, ?_⟩
        · rw [upd_ne (ne_of_none e2 hD)]
          exact S02 _ _ e2
        · rw [upd_same]
          unfold natV
          rw [List.map_append]
          rfl
      · refine ⟨_, rfl, ?_⟩
        refine ite_f (by simpa [hin] using c) ?_
        rw [if_neg (by simpa using c)]
        exact ⟨S02, f2⟩
    obtain ⟨S1, f1⟩ := h
    have f1 : H1 D = some (.lst (natV (spots st.cs n))) := by
      have z := f1
      simp only [csR_len, Int.toNat_natCast] at z
      exact z
    have hl1 := S1 _ _ hl
    have zT1 := S1 _ _ zT
    have zA1 := S1 _ _ zA
    have zC1 := zC.mono S1
    have zV1 := zV.mono S1
    have hbd1 := S1 _ _ hbd
    walk_at "rd"
    refine ⟨d, tbK st.tb, rfl, zT1, fun H5 p5 as S5 hp5 has hpn u5 pr5 => ?_⟩
    have S5 : Same H1 H5 := S5
    walk_at "rd"
    refine ⟨by show 2 ≤ sizeLine; decide, fun n6 hn6 => ?_⟩
    generalize e6 : upd H5 n6 _ = H6
    have S6 : Same H5 H6 := e6 ▸ same_new hn6
    have u6 : H6 n6 = some (.tup [.str (nmS n), .ref b]) := e6 ▸ upd_same
    walk_at "rd"
    refine ⟨by show 1 ≤ sizeLine; decide, fun p7 hp7 => ?_⟩
    generalize e7 : upd H6 p7 _ = H7
    have S7 : Same H6 H7 := e7 ▸ same_new hp7
    have u7 : H7 p7 = some (.lst [.ref n6]) := e7 ▸ upd_same
    have u57 := S7 _ _ (S6 _ _ u5)
    have las : as.length = st.tb.length := by rw [Paired.length pr5, tbK_len]
    refine ⟨_, _, _, _, rfl, rfl, u57, u7, by rw [List.length_map, las, sizeLine_eq]; show _ + 1 ≤ _; omega, fun p8 hp8 => ?_⟩
    generalize e8 : upd H7 p8 _ = H8
    have S8 : Same H7 H8 := e8 ▸ same_new hp8
    have u8 : H8 p8 = some (.lst ((as ++ [n6]).map V.ref)) := by rw [← e8, upd_same, List.map_append]; rfl
    have S58 := (S6.trans S7).trans S8
    have pr8 : Paired (fun (p : Addr) (kv : Key × V) => SqT K H8 p [kV kv.1, kv.2]) (as ++ [n6]) (tbK st.tb ++ [(.inr (nmS n), .ref b)]) :=
      Paired.snoc (K56.Paired.imp (fun _ _ z => SqT.of (S58 _ _ z)) pr5) (SqT.of (S8 _ _ (S7 _ _ u6)))
    refine ⟨p8, as ++ [n6], _, rfl, SqL.of u8, pr8, fun p9 hp9 => ?_⟩
    rw [merge_put hnd n (b, c)]
    generalize e9 : upd H8 p9 _ = H9
    have S9 : Same H8 H9 := e9 ▸ same_new hp9
    have u9 : H9 p9 = some (.dK (tbK (putT st.tb n (b, c)))) := e9 ▸ upd_same
    have S19 := (S5.trans S58).trans S9
    have S09 := S1.trans S19
    have hl9 := S19 _ _ hl1
    walk_at "rd"
    refine ⟨p9, bd, a, D, st.cs, putT st.tb n (b, c), lo, hi, spots st.cs n, rfl, .inl u9, fun x hx => ?_, S19 _ _ zA1, zC1.mono S19, fun k hk => ?_, S19 _ _ f1, S19 _ _ hbd1, hz, fun H' p S du => q H' p (S09.trans S) du⟩
    · rcases mem_put hx with z | z
      · exact (zV.mono S09) x z
      · rw [z]
        exact ⟨(hdd.1.mono dl_le).mono S09, hdd.2⟩
    · obtain ⟨x, hx, _⟩ := spots_mem hk
      exact ⟨x, hx, fun m hm => put_has (ok.now.nm x (List.mem_of_getElem? hx) m hm)⟩
  | lift i =>
    have zde : H de = some (.tup [.str "lift", .int i, .non]) := zde
    have hdu : due (moves lo hi) st (.lift i) = if 0 ≤ i ∧ i < st.cs.length then none else some (Due.place i) := rfl
    have no : ¬ (0 ≤ i ∧ i < st.cs.length) → ∀ (p : Addr) (hp : H p = none), Q (.ref p) (upd H p (.lst [.str "InvalidPlace", .int i])) := fun c p hp => q _ p (same_new hp) (by rw [hdu, if_neg c]; exact upd_same)
    have yes : (0 ≤ i ∧ i < st.cs.length) → ∀ (p : Addr) (hp : H p = none), Q (.ref p) (upd H p (.lst [])) := fun c p hp => q _ p (same_new hp) (by rw [hdu, if_pos c]; exact upd_same)
    walk_at "rd"
    refine ite_d (fun c0 => ?_) (fun c0 => ?_)
    · walk_at "rd"
      rw [csR_len]
      refine ite_d (fun c1 => ?_) (fun c1 => ?_)
      · walk_at "rd"
        exact ⟨by show 0 ≤ sizeLine; decide, fun p hp => yes ⟨c0, c1⟩ p hp⟩
      · walk_at "rd"
        exact ⟨by show 2 ≤ sizeLine; decide, fun p hp => no (fun z => c1 z.2) p hp⟩
    · walk_at "rd"
      exact ⟨by show 2 ≤ sizeLine; decide, fun p hp => no (fun z => c0 z.1) p hp⟩
  | remove n =>
    have zde : H de = some (.tup [.str "remove", .str (nmS n), .non]) := zde
    have hdu : due (moves lo hi) st (.remove n) = if hasT st.tb n = true then (use n 0 (cms st.cs)).map Due.inuse else some (.unknown n) := rfl
    have hg : ((getT st.tb n).map fun a => V.ref a.1).isSome = hasT st.tb n := by unfold hasT; rw [Option.isSome_map]
    walk_at "rd"
    refine ⟨_, _, rfl, dget_tb (.inl zT) n, ?_⟩
    rw [hg]
    refine ⟨_, rfl, ?_⟩
    cases hu : hasT st.tb n with
    | false =>
      rw [if_neg (by rw [hu]; exact Bool.false_ne_true)] at hdu
      refine ite_t rfl ?_
      walk_at "rd"
      exact ⟨by show 2 ≤ sizeLine; decide, fun p hp => q _ p (same_new hp) (by rw [hdu]; exact upd_same)⟩
    | true =>
    rw [if_pos hu, ← spots_use] at hdu
    refine ite_f rfl ?_
    walk_at "rd"
    refine ⟨by rw [csR_len]; omega, by rw [csR_len]; omega, fun D hD => lc_it walk_range (fun i H1 => Same H H1 ∧ H1 D = some (.lst (natV (spotsTo st.cs n i)))) ⟨same_new hD, upd_same⟩ (fun _ _ _ _ => True.intro) (fun i x H1 H2 hi h hy => ?_) fun H1 h => ?_⟩
    · obtain ⟨e, hx0⟩ := hy
      have hx0 : x = .int (i : Nat) := by
        rw [hx0]
        show V.int (0 + (i : Int)) = _
        rw [Int.zero_add]
      subst hx0
      subst H2
      obtain ⟨S1, f1⟩ := h
      have hi' : i < st.cs.length := by
        have z : i < (csR st.cs).length := by simpa using hi
        rwa [csR_len] at z
      have hci : st.cs[i]? = some st.cs[i] := List.getElem?_eq_getElem hi'
      have hax : (csR st.cs)[i]? = some (.ref st.cs[i].1) := by unfold csR; rw [List.getElem?_map, hci]; rfl
      have hxm := zC _ (List.getElem_mem hi')
      have hsp := isSp_at n hi'
      have hnx := spotsTo_succ (cs := st.cs) (n := n) (i := i)
      have hln := spotsTo_len st.cs n i
      generalize (st.cs[i] : Nat × Cm) = x at hax hxm hsp
      have hl1 := S1 _ _ hl
      have zA1 := S1 _ _ zA
      have hc1 := S1 _ _ hxm.1
      walk_at "rd"
      refine ⟨_, _, _, _, rfl, rfl, SqL.of zA1, atI_nat hax, ?_⟩
      walk_at "rd"
      refine ⟨x.1, x.2, rfl, hc1, fun p1 hp1 => ?_⟩
      generalize e2 : upd H1 p1 _ = H2
      have S2 : Same H1 H2 := e2 ▸ same_new hp1
      have u2 : H2 p1 = some (.lst (nmL x.2.names)) := e2 ▸ upd_same
      have f2 := S2 _ _ f1
      have S02 := S1.trans S2
      rw [hnx, hsp]
      walk_at "rd"
      refine ⟨flat_names _, ?_⟩
      have hin := inV_names n x.2.names
      by_cases c : n ∈ x.2.names
      · refine ⟨_, rfl, ?_⟩
        refine ite_t (by simpa [hin] using c) ?_
        rw [if_pos (decide_eq_true c)]
        walk_at "rd"
        refine ⟨_, f2, by rw [natV_len, sizeLine_eq]; omega, fun b u e2 => ?_, ?_⟩
        · rw [upd_ne (ne_of_none e2 hD)]
          exact S02 _ _ e2
        · rw [upd_same]
          unfold natV
          rw [List.map_append]
          rfl
      · refine ⟨_, rfl, ?_⟩
        refine ite_f (by simpa [hin] using c) ?_
        rw [if_neg (by simpa using c)]
        exact ⟨S02, f2⟩
    obtain ⟨S1, f1⟩ := h
    have f1 : H1 D = some (.lst (natV (spots st.cs n))) := by
      have z := f1
      simp only [csR_len, Int.toNat_natCast] at z
      exact z
    have hl1 := S1 _ _ hl
    have zT1 := S1 _ _ zT
    have zA1 := S1 _ _ zA
    have zC1 := zC.mono S1
    have zV1 := zV.mono S1
    have hbd1 := S1 _ _ hbd
    walk_at "rd"
    refine ⟨by show 0 ≤ sizeLine; decide, fun p3 hp3 => ?_⟩
    generalize e3 : upd H1 p3 _ = H3
    have S3 : Same H1 H3 := e3 ▸ same_new hp3
    have u3 : H3 p3 = some (.lst []) := e3 ▸ upd_same
    have f3 := S3 _ _ f1
    refine ⟨_, _, .lst (SqL.of f3) (dp_nats _ _ _), .lst (SqL.of u3) .nil, nats_shaped _, rfl, ?_⟩
    rw [nats_eqv]
    refine ⟨_, rfl, ?_⟩
    have S03 := S1.trans S3
    cases hs : spots st.cs n with
    | nil =>
      rw [hs] at hdu
      refine ite_f rfl ?_
      walk_at "rd"
      exact ⟨by show 0 ≤ sizeLine; decide, fun p hp => q _ p (S03.trans (same_new hp)) (by rw [hdu]; exact upd_same)⟩
    | cons k r =>
      rw [hs] at hdu f3
      refine ite_t rfl ?_
      have f3 : H3 D = some (.lst (.int (k : Nat) :: natV r)) := f3
      walk_at "rd"
      refine ⟨_, _, _, _, rfl, rfl, SqL.of f3, (show atI (.int (k : Nat) :: natV r) ((0 : Nat) : Int) = some (.int (k : Nat)) from atI_nat rfl), ?_⟩
      walk_at "rd"
      exact ⟨by show 2 ≤ sizeLine; decide, fun p hp => q _ p (S03.trans (same_new hp)) (by rw [hdu]; exact upd_same)⟩
  | claim b c =>
    have zde : H de = some (.tup [.str "claim", .ref b, .non]) := zde
    have hdd : CmAt (dl M H) b c ∧ c.ok := hdd
    have zb := dl_le _ _ hdd.1
    have hdu : due (moves lo hi) st (.claim b c) = match c.names.find? fun n => !hasT st.tb n with
      | some n => some (.unknown n)
      | none => (faultC st.tb (moves lo hi) c).map (.broken st.cs.length) := rfl
    walk_at "rd"
    refine ⟨b, c, rfl, zb, fun p1 hp1 => ?_⟩
    generalize e1 : upd H p1 _ = H1
    have S1 : Same H H1 := e1 ▸ same_new hp1
    have u1 : H1 p1 = some (.lst (nmL c.names)) := e1 ▸ upd_same
    have hl1 := S1 _ _ hl
    walk_at "rd"
    refine for_it (walk_list (xs := nmL c.names)) (fun i σ H2 => H2 = H1 ∧ (∃ v5 v6 v7 v8, σ = [some (.ref L), some (.ref de), some (.str "claim"), some (.ref b), some .non, v5, v6, v7, v8]) ∧ (c.names.drop i).find? (fun n => !hasT st.tb n) = c.names.find? fun n => !hasT st.tb n)
      ⟨rfl, ⟨_, _, _, _, rfl⟩, rfl⟩ (fun _ _ H2 _ h => h.1 ▸ SqL.of u1) (fun i v σ H2 H3 hi h hy => ?_) fun σ H2 h => ?_
    · obtain ⟨rfl, ⟨v5, v6, v7, v8, rfl⟩, f⟩ := h
      obtain ⟨rfl, hv⟩ := hy
      unfold nmL at hv hi
      rw [List.length_map] at hi
      have hni : c.names[i]? = some c.names[i] := List.getElem?_eq_getElem hi
      rw [List.getElem?_map, hni] at hv
      obtain rfl := Option.some.inj hv
      rw [find_drop _ hni] at f
      generalize (c.names[i] : Nm) = n at f
      have zT3 := S1 _ _ zT
      have hg : ((getT st.tb n).map fun a => V.ref a.1).isSome = hasT st.tb n := by unfold hasT; rw [Option.isSome_map]
      walk_at "rd"
      refine ⟨_, _, rfl, dget_tb (.inl zT3) n, ?_⟩
      rw [hg]
      refine ⟨_, rfl, ?_⟩
      cases z : hasT st.tb n with
      | true =>
        rw [z] at f
        refine ite_f rfl ?_
        walk_at "rd"
        first | exact f | exact ⟨⟨_, _, _, _, rfl⟩, f⟩ | exact ⟨rfl, ⟨_, _, _, _, rfl⟩, f⟩
      | false =>
        rw [z] at f
        refine ite_t rfl ?_
        have f : some n = c.names.find? fun n => !hasT st.tb n := f
        rw [← f] at hdu
        walk_at "rd"
        exact ⟨by show 2 ≤ sizeLine; decide, fun p hp => q _ p (S1.trans (same_new hp)) (by rw [hdu]; exact upd_same)⟩
    · obtain ⟨rfl, ⟨v5, v6, v7, v8, rfl⟩, f⟩ := h
      unfold nmL at f
      rw [List.length_map, List.drop_length] at f
      have f : none = c.names.find? fun n => !hasT st.tb n := f
      have hall := List.find?_eq_none.mp f.symm
      rw [← f] at hdu
      have hdu : due (moves lo hi) st (.claim b c) = brkL st.tb (moves lo hi) (st.cs ++ [(b, c)]) [st.cs.length] := hdu.trans (brkL_one _ _ _ b c).symm
      rw [hdu] at q
      have zA1 := S1 _ _ zA
      walk_at "rd"
      refine ⟨by show 1 ≤ sizeLine; decide, fun p5 hp5 => ?_⟩
      generalize e5 : upd H2 p5 _ = H5
      have S5 : Same H2 H5 := e5 ▸ same_new hp5
      have u5 : H5 p5 = some (.lst [.ref b]) := e5 ▸ upd_same
      have zA5 := S5 _ _ zA1
      refine ⟨_, _, _, _, rfl, rfl, zA5, u5, by rw [csR_len, sizeLine_eq]; show _ + 1 ≤ _; omega, fun p6 hp6 => ?_⟩
      generalize e6 : upd H5 p6 _ = H6
      have S6 : Same H5 H6 := e6 ▸ same_new hp6
      have u6 : H6 p6 = some (.lst (csR (st.cs ++ [(b, c)]))) := by rw [← e6, upd_same, csR_app]; rfl
      have S16 := S5.trans S6
      have hl6 := S16 _ _ hl1
      have zA6 := S16 _ _ zA1
      walk_at "rd"
      refine ⟨by show 1 ≤ sizeLine; decide, fun p7 hp7 => ?_⟩
      generalize e7 : upd H6 p7 _ = H7
      have S7 : Same H6 H7 := e7 ▸ same_new hp7
      have u7 : H7 p7 = some (.lst [.int (st.cs.length : Nat)]) := by rw [← e7, upd_same, csR_len]
      have S07 := (S1.trans S16).trans S7
      refine ⟨d, bd, p6, p7, st.cs ++ [(b, c)], st.tb, lo, hi, [st.cs.length], rfl, .inl (S07 _ _ zT), zV.mono S07, S7 _ _ u6, fun x hx => ?_, fun k hk => ?_, u7, S07 _ _ hbd, hz, fun H' p S du => q H' p (S07.trans S) du⟩
      · rcases List.mem_append.mp hx with z | z
        · exact (zC.mono S07) x z
        · rw [List.mem_singleton] at z
          rw [z]
          exact ⟨S07 _ _ zb, hdd.2⟩
      · rw [List.mem_singleton] at hk
        refine ⟨(b, c), by rw [hk, List.getElem?_append_right (Nat.le_refl _), Nat.sub_self]; rfl, fun m hm => ?_⟩
        simpa using hall m hm
end
end K56
namespace K56
open PySem PySem.Spec PyProof.Rows L2
local macro_rules | `(tactic| walk_at "rd") => `(tactic| repeat (first | (refine ⟨_, rfl, ?_⟩) | (refine ⟨_, _, rfl, rfl, ?_⟩) | (refine ⟨rfl, ?_⟩) | (refine ⟨_, (by assumption : _ = some (HO.tup _)), ?_⟩) | (refine ⟨_, _, _, _, rfl, rfl, SqT.of (by assumption), rfl, ?_⟩) | (refine ⟨_, _, _, _, rfl, rfl, SqL.of (by assumption), rfl, ?_⟩) | (refine ⟨_, _, rfl, .inr (SqT.of (by assumption)), ?_⟩) | (refine ⟨_, _, rfl, .inl (SqL.of (by assumption)), ?_⟩) | (refine ⟨_, _, rfl, SqT.of (by assumption), rfl, ?_⟩) | (refine ⟨_, _, _, _, _, rfl, (by assumption : _ = some (HO.ins _ _ _)), Tx.cls (by assumption) _ (by decide +kernel), Tx.noat (by assumption) _ _ (by decide +kernel), rfl, ?_⟩) | (refine ⟨_, _, _, rfl, (by assumption : _ = some (HO.ins _ _ _)), _, _, rfl, (by assumption : ClAt _ _ _ _), ?_⟩) | (refine ⟨_, _, _, _, rfl, (by assumption : _ = some (HO.ins _ _ _)), Tx.cls (by assumption) _ (by decide +kernel), Tx.noat (by assumption) _ _ (by decide +kernel), Nat.le_of_ble_eq_true rfl, ?_⟩) | (refine ⟨_, _, rfl, SqT.of (by assumption), ?_⟩) | (refine ⟨_, _, rfl, SqL.of (by assumption), ?_⟩) | (refine ⟨_, _, rfl, ?_⟩) | (refine ⟨_, _, _, rfl, (by assumption : _ = some (HO.ins _ _ _)), ?_⟩) | (refine ⟨_, _, _, rfl, (by assumption : _ = some (HO.tup _)), ?_⟩) | (refine ⟨_, _, _, rfl, (by assumption : ClAt _ _ _ _), ?_⟩) | (refine ⟨_, _, _, _, _, rfl, (by assumption : ClAt _ _ _ _), (by assumption : _ = some (HO.tup _)), ?_⟩) | (refine ⟨.inl ⟨rfl, _, SqL.of (by assumption)⟩, ?_⟩) | (refine ⟨⟨_, SqL.of (by assumption)⟩, ?_⟩) | (refine ⟨⟨_, SqT.of (by assumption)⟩, ?_⟩) | (with_reducible refine ite_t ?kc ?kg; (case kc => simp; done)) | (with_reducible refine ite_f ?kc ?kg; (case kc => simp; done))))
local macro_rules | `(tactic| walk_at "sc") => `(tactic| exact ⟨rfl, rfl, rfl, by decide +kernel, rfl, by decide +kernel, by decide +kernel⟩)
section
variable {w : World} {K : PySem.W.Frag} {mg : Str → Option Value} {base : Heap}
def sp_law_put (K : PySem.W.Frag) : Sp := fun vs H Q E => sp_Desk_setitem K vs H Q E
theorem sc_law_put : FnScope ["_law_desk", "_law_name", "_law_fresh"] ["_law_desk", "_law_name", "_law_fresh"] (defScope s_law_put) := by walk_at "sc"
theorem ok_law_put (T : Tx w K mg) : Fn PG w K mg base 16 (ga K "_law_put") (sp_law_put K) := by
  obtain ⟨fd, F⟩ := T.fn _ m_law_put
  refine fn_mk F (F.bindsN fun _ _ _ _ _ _ us hl => match us, hl with | [_, _, _], _ => rfl) sc_law_put (fun vs H Q E h => by obtain ⟨M, dk, bd, st, lo, hi, nm, b, c, rfl, hM, hL, hD, hb, ok, hn, hnd, hbd, hz, hlen, hcl, q0, q1⟩ := h; rfl) ?_
  intro cdv A outer s H vs Q E hr h
  refine ⟨_, (pss_cons (ps_asg (pv 2) (pg_sub (pv 0) (pv 1) (set_own (spm_of T "Desk" "__setitem__") T.noseq (ok_Desk_setitem T) (hr.mono (by decide)) (fun σ => pasE (takes_of rfl rfl rfl rfl) σ fun _ _ _ z => z))))
    (pss_one (ps_ret pe_non))), ?_⟩
  obtain ⟨M, dk, bd, st, lo, hi, nm, b, c, rfl, hM, hL, hD, hb, ok, hn, hnd, hbd, hz, hlen, hcl, q0, q1⟩ := h
  obtain ⟨dx, s', n, td, tc, p, pvs, h1, _⟩ := id hD
  walk_at "rd"
  refine ⟨M, dk, bd, st, lo, hi, nm, b, c, rfl, hM, hL, hD, hb, ok, hn, hnd, hbd, hz, hlen, hcl, fun hd H' f d => ?_, q1⟩
  walk_at "rd"
  exact q0 hd H' f d
def sp_law_do (K : PySem.W.Frag) : Sp := fun vs H Q E => ∃ (M : List Addr) (dk bd de : Addr) (st : Sta) (lo hi : Int) (dd : Dd), vs = [.ref dk, .ref de] ∧ dk ∈ M ∧ Lv M H ∧ DkAt K (dl M H) H dk bd st ∧ DdAt K (dl M H) de dd ∧ BdAt H bd lo hi ∧ (-3 ≤ lo ∧ lo ≤ hi ∧ hi ≤ 3 ∧ hi - lo ≤ 2) ∧ StOk 100 st ∧
  DeedQ K M dk bd (moves lo hi) st dd H Q E
theorem sc_law_do : FnScope ["_law_desk", "_law_deed", "_law_word", "_law_thing", "_law_fresh"] ["_law_desk", "_law_deed"] (defScope s_law_do) := by walk_at "sc"
theorem ok_law_do (T : Tx w K mg) : Fn PG w K mg base 17 (ga K "_law_do") (sp_law_do K) := by
  obtain ⟨fd, F⟩ := T.fn _ m_law_do
  refine fn_mk F (F.bindsN fun _ _ _ _ _ _ us hl => match us, hl with | [_, _], _ => rfl) sc_law_do (fun vs H Q E h => by obtain ⟨M, dk, bd, de, st, lo, hi, dd, rfl, hM, hL, hD, ⟨hde, hdd⟩, hbd, hz, ok, q0, q1⟩ := h; rfl) ?_
  intro cdv A outer s H vs Q E hr h
  refine ⟨_, (pss_cons (ps_asg (pv 1) (pg_tup rfl (pgs_cons (pg_name (i := 2) sc_law_do.nd rfl (Or.inl rfl)) (pgs_cons (pg_name (i := 3) sc_law_do.nd rfl (Or.inl rfl)) (pgs_cons (pg_name (i := 4) sc_law_do.nd rfl (Or.inl rfl)) pgs_nil)))))
    (pss_cons (ps_if (pt_cmpR op_eq (pv 2) pe_str (nomark _)) (pss_one (ps_ret (pe_cl (ok_law_put T) (hr.mono (by decide)) (T.g "_law_put") (T.kp _ m_law_put) (fun σ => passAt (takes_of rfl rfl rfl rfl) σ) (pa_cons (pv 0) (pa_cons (pv 3) (pa_cons (pv 4) pa_nil)))))) pss_nil)
    (pss_cons (ps_if (pt_cmpR op_eq (pv 2) pe_str (nomark _)) (pss_one (ps_ret (pe_ml (pv 0) (T.cls "Desk" (by decide +kernel)) (T.meth "Desk" "remove" (by decide +kernel)) (ok_Desk_remove T) (hr.mono (by decide)) (fun σ => passAt (takes_of rfl rfl rfl rfl) σ) (pa_cons (pv 3) pa_nil)))) pss_nil)
    (pss_cons (ps_if (pt_cmpR op_eq (pv 2) pe_str (nomark _)) (pss_one (ps_ret (pe_ml (pv 0) (T.cls "Desk" (by decide +kernel)) (T.meth "Desk" "claim" (by decide +kernel)) (ok_Desk_claim T) (hr.mono (by decide)) (fun σ => passAt (takes_of rfl rfl rfl rfl) σ) (pa_cons (pv 3) pa_nil)))) pss_nil)
    (pss_one (ps_ret (pe_ifExp (pt_cmpR op_eq (pv 2) pe_str (nomark _)) (pe_ml (pv 0) (T.cls "Desk" (by decide +kernel)) (T.meth "Desk" "lift" (by decide +kernel)) (ok_Desk_lift T) (hr.mono (by decide)) (fun σ => passAt (takes_of rfl rfl rfl rfl) σ) (pa_cons (pv 3) pa_nil)) (pe_ml0 (pv 0) (T.cls "Desk" (by decide +kernel)) (T.meth "Desk" "undo" (by decide +kernel)) (ok_Desk_undo T) (hr.mono (by decide)) (fun σ => passAt (takes_of rfl rfl rfl rfl) σ))))))))), ?_⟩
  obtain ⟨M, dk, bd, de, st, lo, hi, dd, rfl, hM, hL, hD, ⟨hde, hdd⟩, hbd, hz, ok, q0, q1⟩ := h
  have hnd : (st.tb.map (·.1)).Nodup := ok.now.nd
  have hlen := ok.len
  have hcl : st.cs.length ≤ 100 := Nat.le_trans ok.now.cl (by decide)
  obtain ⟨dx, s', n', td, tc, p, pvs, h1, _⟩ := id hD
  have zde := dl_le _ _ hde
  walk_at "rd"
  cases dd with
  | put n b c =>
    have zde : H de = some (.tup [.str "put", .str (nmS n), .ref b]) := zde
    have hdd : ClAt K (dl M H) b c ∧ Ok c := hdd
    walk_at "rd"
    exact ⟨M, dk, bd, st, lo, hi, n, b, c, rfl, hM, hL, hD, hdd.1, hdd.2, ok.now.nm, hnd, hbd, hz, hlen, hcl, q0, q1⟩
  | remove n =>
    have zde : H de = some (.tup [.str "remove", .str (nmS n), .non]) := zde
    walk_at "rd"
    exact ⟨M, dk, bd, st, moves lo hi, n, rfl, hM, hL, hD, hnd, hlen, hcl, q0, q1⟩
  | claim b c =>
    have zde : H de = some (.tup [.str "claim", .ref b, .non]) := zde
    have hdd : CmAt (dl M H) b c ∧ c.ok := hdd
    walk_at "rd"
    exact ⟨M, dk, bd, st, lo, hi, b, c, rfl, hM, hL, hD, hdd.1, hdd.2, hbd, hz, hlen, hcl, q0, q1⟩
  | lift i =>
    have zde : H de = some (.tup [.str "lift", .int i, .non]) := zde
    walk_at "rd"
    exact ⟨M, dk, bd, st, moves lo hi, i, rfl, hM, hL, hD, hlen, hcl, q0, q1⟩
  | undo =>
    have zde : H de = some (.tup [.str "undo", .non, .non]) := zde
    walk_at "rd"
    exact ⟨M, dk, bd, st, moves lo hi, rfl, hM, hL, hD, hlen, q0, q1⟩
end
end K56
namespace K56
open PySem PySem.Spec PyProof.Rows L2 LamX
local macro_rules | `(tactic| walk_at "rd") => `(tactic| repeat (first | (refine ⟨_, rfl, ?_⟩) | (refine ⟨_, _, rfl, rfl, ?_⟩) | (refine ⟨rfl, ?_⟩) | (refine ⟨_, (by assumption : _ = some (HO.tup _)), ?_⟩) | (refine ⟨_, _, _, _, rfl, rfl, SqT.of (by assumption), rfl, ?_⟩) | (refine ⟨_, _, _, _, rfl, rfl, SqL.of (by assumption), rfl, ?_⟩) | (refine ⟨_, _, rfl, .inr (SqT.of (by assumption)), ?_⟩) | (refine ⟨_, _, rfl, .inl (SqL.of (by assumption)), ?_⟩) | (refine ⟨_, _, rfl, SqT.of (by assumption), rfl, ?_⟩) | (refine ⟨_, _, _, _, _, rfl, (by assumption : _ = some (HO.ins _ _ _)), Tx.cls (by assumption) _ (by decide +kernel), Tx.noat (by assumption) _ _ (by decide +kernel), rfl, ?_⟩) | (refine ⟨_, _, _, rfl, (by assumption : _ = some (HO.ins _ _ _)), _, _, rfl, (by assumption : ClAt _ _ _ _), ?_⟩) | (refine ⟨_, _, _, _, rfl, (by assumption : _ = some (HO.ins _ _ _)), Tx.cls (by assumption) _ (by decide +kernel), Tx.noat (by assumption) _ _ (by decide +kernel), Nat.le_of_ble_eq_true rfl, ?_⟩) | (refine ⟨_, _, rfl, SqT.of (by assumption), ?_⟩) | (refine ⟨_, _, rfl, SqL.of (by assumption), ?_⟩) | (refine ⟨_, _, rfl, ?_⟩) | (refine ⟨_, _, _, rfl, (by assumption : _ = some (HO.ins _ _ _)), ?_⟩) | (refine ⟨_, _, _, rfl, (by assumption : _ = some (HO.tup _)), ?_⟩) | (refine ⟨_, _, _, rfl, (by assumption : ClAt _ _ _ _), ?_⟩) | (refine ⟨_, _, _, _, _, rfl, (by assumption : ClAt _ _ _ _), (by assumption : _ = some (HO.tup _)), ?_⟩) | (refine ⟨.inl ⟨rfl, _, SqL.of (by assumption)⟩, ?_⟩) | (refine ⟨⟨_, SqL.of (by assumption)⟩, ?_⟩) | (refine ⟨⟨_, SqT.of (by assumption)⟩, ?_⟩) | (with_reducible refine ite_t ?kc ?kg; (case kc => simp; done)) | (with_reducible refine ite_f ?kc ?kg; (case kc => simp; done))))
local macro_rules | `(tactic| walk_at "sc") => `(tactic| exact ⟨rfl, rfl, rfl, by decide +kernel, rfl, by decide +kernel, by decide +kernel⟩)
theorem sc_law_told : FnScope ["_law_act", "_law_value", "e"] ["_law_act"] (defScope s_law_told) := by walk_at "sc"
/-- what telling makes of what is called -/
def TTold (K : PySem.W.Frag) : (XK → Hp → VK → Prop) → Hp → VK → Prop := fun tl H Q =>
  tl (fun cls x H' => ∃ u, XxAt K H' cls x u ∧ ∀ H2 p, Same H' H2 → DuAt H2 p (some u) → Q (.ref p) H2) H (fun v H' => ∃ v', (some (some v) : Option (Option V)) = some (some v') ∧ 2 ≤ sizeLine ∧ ∀ p, H' p = none → Q (.ref p) (upd H' p (.lst [.str "told", v'])))
section
variable {X : Cx}
theorem nm_ref {x : Str} (y : Str) (T : Tx X.w X.K X.mg) (hx : y = x := by rfl) (h : glL.contains x = true := by decide +kernel) (hg : Gl X x := by rfl) (hd : (x == ("__debug__" : Str)) = false := by decide) : Names X x (.ref (ga X.K x)) :=
  ⟨hg, hd, .inl (T.glo x h)⟩
theorem hd_no (T : Tx X.w X.K X.mg) (a b : Str) (h1 : raisedL.contains a = true := by decide +kernel) (h2 : caughtL.contains b = true := by decide +kernel) (h : a ≠ b := by decide) : PySem.W.exmOne X.K (.ref (ga X.K a)) (.ref (ga X.K b)) = some false := by
  rw [T.exm a b h1 h2, decide_eq_false h]
theorem hd_yes (T : Tx X.w X.K X.mg) (a : Str) (h1 : raisedL.contains a = true := by decide +kernel) (h2 : caughtL.contains a = true := by decide +kernel) : PySem.W.exmOne X.K (.ref (ga X.K a)) (.ref (ga X.K a)) = some true := by
  rw [T.exm a a h1 h2, decide_eq_true rfl]
theorem takes_len {W : WX} (tk : Takes X W) : Takes X (fun cls d σ H => σ.length = X.N.length → W cls d σ H) := fun u s' ⟨a, B, sI, pins, σ, H, cls, d, e, I, nb, up, sky, na, os, ag, w⟩ =>
  tk u s' ⟨a, B, sI, pins, σ, H, cls, d, e, I, nb, up, sky, na, os, ag, w I.len⟩
theorem slots3 {σ : L2.St} (h : σ.length = 3) (a : Addr) : ∃ v0 v1, σ.set 2 (some (.ref a)) = [v0, v1, some (.ref a)] := by
  match σ, h with
  | [v0, v1, _], _ => exact ⟨v0, v1, rfl⟩
theorem law_gives (T : Tx X.w X.K X.mg) {x q : Str} {g : Addr} {cdg : Value} : GivesTo X ["_law_act", "_law_value", "e"] x (defScope s_law_told) g cdg (defBody s_law_told) "_law_act" q (TTold X.K) := by
  intro f c' s H Q tl act hc h
  refine ⟨_, pss_cons (ps_try_hds (X := (cxOf C8.CX0 X.prog X.w X.K X.mg X.base ["_law_act", "_law_value", "e"] x (defScope s_law_told) g cdg X.A X.stack s H C8.E0).nox)
      (tb := fun W D σ H => ∃ Ech : XK, (∀ cls d σ' H', Ech cls d H' → σ'.length = 3 → W cls d σ' H') ∧ σ[0]? = some (some (.ref f)) ∧ H c' = some (CodeO c' q) ∧ tl Ech H fun v H' => D.nx (σ.set 1 (some v)) H')
      rfl rfl sc_law_told.nd LamX.takes0 (fun W pn xe tk _ => ?_)
      (.named (n := "e") (i := 2) rfl rfl (nm_ref "Broken" T) (fun a oe cls d pn hz hf => pss_one (ps_ret (pe_lst (pa_cons pe_str (pa_cons (pe_xf (T.xf "Broken" "index" (by decide +kernel)).1 (T.xf "Broken" "index" (by decide +kernel)).2 hz hf (pv 2)) (pa_cons (pe_xf (T.xf "Broken" "shown" (by decide +kernel)).1 (T.xf "Broken" "shown" (by decide +kernel)).2 hz hf (pv 2)) pa_nil))))))
      (.named (n := "e") (i := 2) rfl rfl (nm_ref "InvalidClaim" T) (fun a oe cls d pn hz hf => pss_one (ps_ret (pe_lst (pa_cons pe_str (pa_cons (pe_xf (T.xf "InvalidClaim" "given" (by decide +kernel)).1 (T.xf "InvalidClaim" "given" (by decide +kernel)).2 hz hf (pv 2)) pa_nil)))))
      (.named (n := "e") (i := 2) rfl rfl (nm_ref "InvalidPlace" T) (fun a oe cls d pn hz hf => pss_one (ps_ret (pe_lst (pa_cons pe_str (pa_cons (pe_xf (T.xf "InvalidPlace" "given" (by decide +kernel)).1 (T.xf "InvalidPlace" "given" (by decide +kernel)).2 hz hf (pv 2)) pa_nil)))))
      (.named (n := "e") (i := 2) rfl rfl (nm_ref "InvalidName" T) (fun a oe cls d pn hz hf => pss_one (ps_ret (pe_lst (pa_cons pe_str (pa_cons (pe_xf (T.xf "InvalidName" "given" (by decide +kernel)).1 (T.xf "InvalidName" "given" (by decide +kernel)).2 hz hf (pv 2)) pa_nil)))))
      (.named (n := "e") (i := 2) rfl rfl (nm_ref "NotAClause" T) (fun a oe cls d pn hz hf => pss_one (ps_ret (pe_lst (pa_cons pe_str (pa_cons (pe_xf (T.xf "NotAClause" "given" (by decide +kernel)).1 (T.xf "NotAClause" "given" (by decide +kernel)).2 hz hf (pv 2)) pa_nil)))))
      (.named (n := "e") (i := 2) rfl rfl (nm_ref "UnknownName" T) (fun a oe cls d pn hz hf => pss_one (ps_ret (pe_lst (pa_cons pe_str (pa_cons (pe_xf (T.xf "UnknownName" "given" (by decide +kernel)).1 (T.xf "UnknownName" "given" (by decide +kernel)).2 hz hf (pv 2)) pa_nil)))))
      (.named (n := "e") (i := 2) rfl rfl (nm_ref "InUse" T) (fun a oe cls d pn hz hf => pss_one (ps_ret (pe_lst (pa_cons pe_str (pa_cons (pe_xf (T.xf "InUse" "index" (by decide +kernel)).1 (T.xf "InUse" "index" (by decide +kernel)).2 hz hf (pv 2)) pa_nil)))))
      (.plain (nm_ref "NothingToUndo" T) (fun a oe cls d pn hz hf => pss_one (ps_ret (pe_lst (pa_cons pe_str pa_nil)))) .nil)))))))))
    (pss_one (ps_ret (pe_lst (pa_cons pe_str (pa_cons (pv 1) pa_nil))))), ?_⟩
  · refine ⟨fun pins s' σ H' D I h' => ?_⟩
    obtain ⟨Ech, hW, h1, h2, h3⟩ := h'
    have hp := fun p1 p2 => act _ pn xe Ech p1 p2 (takes_len tk) hW
    exact (pss_one (ps_set (i := 1) sc_law_told.nd rfl (Or.inl rfl) (hp _ _))).run pins s' σ H' D I ⟨h1, h2, h3⟩
  · refine ⟨fun cls x H' => ∃ u, XxAt X.K H' cls x u ∧ ∀ H2 p, Same H' H2 → DuAt H2 p (some u) → Q (.ref p) H2, fun cls d σ' H' ⟨u, hx, hq⟩ hl => ?_, rfl, hc, ?_⟩
    · cases u with
      | broken i f =>
        obtain ⟨rfl, dd, v, rfl, hd, hv⟩ := hx
        refine ⟨true, hd_yes T "Broken", fun _ a ha => ?_, fun z => by cases z⟩
        obtain ⟨v0, v1, hσ⟩ := slots3 hl a
        show tRet _ _ (σ'.set 2 (some (.ref a))) H'
        rw [hσ]
        walk_at "rd"
        refine ⟨dd, _, _, rfl, hd, rfl, ?_⟩
        walk_at "rd"
        refine ⟨dd, _, _, rfl, hd, rfl, ?_⟩
        walk_at "rd"
        exact ⟨by show 3 ≤ sizeLine; decide, fun p hp => hq _ p (same_new hp) ⟨v, hv.mono (same_new hp), upd_same⟩⟩
      | unknown n =>
        obtain ⟨rfl, dd, rfl, hd⟩ := hx
        refine ⟨false, hd_no T "UnknownName" "Broken", (fun z => by cases z), fun _ => ?_⟩
        refine ⟨false, hd_no T "UnknownName" "InvalidClaim", (fun z => by cases z), fun _ => ?_⟩
        refine ⟨false, hd_no T "UnknownName" "InvalidPlace", (fun z => by cases z), fun _ => ?_⟩
        refine ⟨false, hd_no T "UnknownName" "InvalidName", (fun z => by cases z), fun _ => ?_⟩
        refine ⟨false, hd_no T "UnknownName" "NotAClause", (fun z => by cases z), fun _ => ?_⟩
        refine ⟨true, hd_yes T "UnknownName", fun _ a ha => ?_, fun z => by cases z⟩
        obtain ⟨v0, v1, hσ⟩ := slots3 hl a
        show tRet _ _ (σ'.set 2 (some (.ref a))) H'
        rw [hσ]
        walk_at "rd"
        refine ⟨dd, _, _, rfl, hd, rfl, ?_⟩
        walk_at "rd"
        exact ⟨by show 2 ≤ sizeLine; decide, fun p hp => hq _ p (same_new hp) upd_same⟩
      | inuse i =>
        obtain ⟨rfl, dd, rfl, hd⟩ := hx
        refine ⟨false, hd_no T "InUse" "Broken", (fun z => by cases z), fun _ => ?_⟩
        refine ⟨false, hd_no T "InUse" "InvalidClaim", (fun z => by cases z), fun _ => ?_⟩
        refine ⟨false, hd_no T "InUse" "InvalidPlace", (fun z => by cases z), fun _ => ?_⟩
        refine ⟨false, hd_no T "InUse" "InvalidName", (fun z => by cases z), fun _ => ?_⟩
        refine ⟨false, hd_no T "InUse" "NotAClause", (fun z => by cases z), fun _ => ?_⟩
        refine ⟨false, hd_no T "InUse" "UnknownName", (fun z => by cases z), fun _ => ?_⟩
        refine ⟨true, hd_yes T "InUse", fun _ a ha => ?_, fun z => by cases z⟩
        obtain ⟨v0, v1, hσ⟩ := slots3 hl a
        show tRet _ _ (σ'.set 2 (some (.ref a))) H'
        rw [hσ]
        walk_at "rd"
        refine ⟨dd, _, _, rfl, hd, rfl, ?_⟩
        walk_at "rd"
        exact ⟨by show 2 ≤ sizeLine; decide, fun p hp => hq _ p (same_new hp) upd_same⟩
      | place i =>
        obtain ⟨rfl, dd, rfl, hd⟩ := hx
        refine ⟨false, hd_no T "InvalidPlace" "Broken", (fun z => by cases z), fun _ => ?_⟩
        refine ⟨false, hd_no T "InvalidPlace" "InvalidClaim", (fun z => by cases z), fun _ => ?_⟩
        refine ⟨true, hd_yes T "InvalidPlace", fun _ a ha => ?_, fun z => by cases z⟩
        obtain ⟨v0, v1, hσ⟩ := slots3 hl a
        show tRet _ _ (σ'.set 2 (some (.ref a))) H'
        rw [hσ]
        walk_at "rd"
        refine ⟨dd, _, _, rfl, hd, rfl, ?_⟩
        walk_at "rd"
        exact ⟨by show 2 ≤ sizeLine; decide, fun p hp => hq _ p (same_new hp) upd_same⟩
      | nothing =>
        obtain ⟨rfl, rfl⟩ := hx
        refine ⟨false, hd_no T "NothingToUndo" "Broken", (fun z => by cases z), fun _ => ?_⟩
        refine ⟨false, hd_no T "NothingToUndo" "InvalidClaim", (fun z => by cases z), fun _ => ?_⟩
        refine ⟨false, hd_no T "NothingToUndo" "InvalidPlace", (fun z => by cases z), fun _ => ?_⟩
        refine ⟨false, hd_no T "NothingToUndo" "InvalidName", (fun z => by cases z), fun _ => ?_⟩
        refine ⟨false, hd_no T "NothingToUndo" "NotAClause", (fun z => by cases z), fun _ => ?_⟩
        refine ⟨false, hd_no T "NothingToUndo" "UnknownName", (fun z => by cases z), fun _ => ?_⟩
        refine ⟨false, hd_no T "NothingToUndo" "InUse", (fun z => by cases z), fun _ => ?_⟩
        refine ⟨true, hd_yes T "NothingToUndo", fun _ a ha => ?_, fun z => by cases z⟩
        walk_at "rd"
        exact ⟨by show 1 ≤ sizeLine; decide, fun p hp => hq _ p (same_new hp) upd_same⟩
    · exact h
end
end K56
namespace K56
open PySem PySem.Spec PyProof.Rows L2
local macro_rules | `(tactic| walk_at "rd") => `(tactic| repeat (first | (refine ⟨_, rfl, ?_⟩) | (refine ⟨_, _, rfl, rfl, ?_⟩) | (refine ⟨rfl, ?_⟩) | (refine ⟨_, (by assumption : _ = some (HO.tup _)), ?_⟩) | (refine ⟨_, _, _, _, rfl, rfl, SqT.of (by assumption), rfl, ?_⟩) | (refine ⟨_, _, _, _, rfl, rfl, SqL.of (by assumption), rfl, ?_⟩) | (refine ⟨_, _, rfl, .inr (SqT.of (by assumption)), ?_⟩) | (refine ⟨_, _, rfl, .inl (SqL.of (by assumption)), ?_⟩) | (refine ⟨_, _, rfl, SqT.of (by assumption), rfl, ?_⟩) | (refine ⟨_, _, _, _, _, rfl, (by assumption : _ = some (HO.ins _ _ _)), Tx.cls (by assumption) _ (by decide +kernel), Tx.noat (by assumption) _ _ (by decide +kernel), rfl, ?_⟩) | (refine ⟨_, _, _, rfl, (by assumption : _ = some (HO.ins _ _ _)), _, _, rfl, (by assumption : ClAt _ _ _ _), ?_⟩) | (refine ⟨_, _, _, _, rfl, (by assumption : _ = some (HO.ins _ _ _)), Tx.cls (by assumption) _ (by decide +kernel), Tx.noat (by assumption) _ _ (by decide +kernel), Nat.le_of_ble_eq_true rfl, ?_⟩) | (refine ⟨_, _, rfl, SqT.of (by assumption), ?_⟩) | (refine ⟨_, _, rfl, SqL.of (by assumption), ?_⟩) | (refine ⟨_, _, rfl, ?_⟩) | (refine ⟨_, _, _, rfl, (by assumption : _ = some (HO.ins _ _ _)), ?_⟩) | (refine ⟨_, _, _, rfl, (by assumption : _ = some (HO.tup _)), ?_⟩) | (refine ⟨_, _, _, rfl, (by assumption : ClAt _ _ _ _), ?_⟩) | (refine ⟨_, _, _, _, _, rfl, (by assumption : ClAt _ _ _ _), (by assumption : _ = some (HO.tup _)), ?_⟩) | (refine ⟨.inl ⟨rfl, _, SqL.of (by assumption)⟩, ?_⟩) | (refine ⟨⟨_, SqL.of (by assumption)⟩, ?_⟩) | (refine ⟨⟨_, SqT.of (by assumption)⟩, ?_⟩) | (with_reducible refine ite_t ?kc ?kg; (case kc => simp; done)) | (with_reducible refine ite_f ?kc ?kg; (case kc => simp; done))))
local macro_rules | `(tactic| walk_at "sc") => `(tactic| exact ⟨rfl, rfl, rfl, by decide +kernel, rfl, by decide +kernel, by decide +kernel⟩)
/-! ### all but tables and what is told stays -/
abbrev Nt (G G' : Hp) : Prop := LamX.ExtN G G'
theorem nt_dl {M : List Addr} {H H' : Hp} (e : Nt H H') : Nt (dl M H) (dl M H') := fun b o h n => by
  unfold K56.dl at h ⊢
  by_cases hb : b ∈ M
  · rw [if_pos hb] at h; cases h
  · rw [if_neg hb] at h ⊢
    exact e b o h n
section
variable {K : PySem.W.Frag} {G G' : Hp}
theorem ClAt.ext (e : Nt G G') {c : Addr} {p : Pt} (h : ClAt K G c p) : ClAt K G' c p := by
  obtain ⟨dx, t, h1, h2⟩ := h
  exact ⟨dx, t, e _ _ h1 (fun _ z => by cases z), e _ _ h2 (fun _ z => by cases z)⟩
theorem TdAt.ext (e : Nt G G') {td : Addr} {t : Tb} (h : TdAt K G td t) : TdAt K G' td t := ⟨e _ _ h.1 (fun _ z => by cases z), fun p hp => ⟨(h.2 p hp).1.ext e, (h.2 p hp).2⟩⟩
theorem CsV.ext (e : Nt G G') {cs : Cs} (h : CsV G cs) : CsV G' cs := fun p hp => ⟨e _ _ (h p hp).1 (fun _ z => by cases z), (h p hp).2⟩
theorem TcAt.ext (e : Nt G G') {a : Addr} {cs : Cs} (h : TcAt G a cs) : TcAt G' a cs := ⟨e _ _ h.1 (fun _ z => by cases z), h.2.ext e⟩
theorem LcAt.ext (e : Nt G G') {a : Addr} {cs : Cs} (h : LcAt G a cs) : LcAt G' a cs := ⟨e _ _ h.1 (fun _ z => by cases z), h.2.ext e⟩
theorem EnAt.ext (e : Nt G G') {v : V} {x : Tb × Cs} (h : EnAt K G v x) : EnAt K G' v x := by
  obtain ⟨n, td, tc, h1, h2, h3, h4⟩ := h
  exact ⟨n, td, tc, h1, e _ _ h2 (fun _ z => by cases z), h3.ext e, h4.ext e⟩
theorem LeAt.ext (e : Nt G G') {v : V} {x : Tb × Cs} (h : LeAt K G v x) : LeAt K G' v x := by
  obtain ⟨n, td, tc, h1, h2, h3, h4⟩ := h
  exact ⟨n, td, tc, h1, e _ _ h2 (fun _ z => by cases z), h3.ext e, h4.ext e⟩
theorem DdAt.ext (e : Nt G G') {p : Addr} {d : Dd} (h : DdAt K G p d) : DdAt K G' p d := by
  obtain ⟨h1, h2⟩ := h
  refine ⟨e _ _ h1 (fun _ z => by cases z), ?_⟩
  cases d with
  | put n a c => exact ⟨h2.1.ext e, h2.2⟩
  | claim a c => exact ⟨e _ _ h2.1 (fun _ z => by cases z), h2.2⟩
  | _ => trivial
theorem DkAt.ext {M : List Addr} {H H' : Hp} (e : Nt H H') {dk bd : Addr} {st : Sta} (h : DkAt K (dl M H) H dk bd st) : DkAt K (dl M H') H' dk bd st := by
  obtain ⟨dx, s, n, td, tc, p, pvs, h1, h2, h3, h4, h5, h6, h7⟩ := h
  have f := nt_dl (M := M) e
  exact ⟨dx, s, n, td, tc, p, pvs, e _ _ h1 (fun _ z => by cases z), f _ _ h2 (fun _ z => by cases z), f _ _ h3 (fun _ z => by cases z), h4.ext f, h5.ext f, f _ _ h6 (fun _ z => by cases z), K56.Paired.imp (fun _ _ z => EnAt.ext f z) h7⟩
theorem LwAt.ext {M : List Addr} {H H' : Hp} (e : Nt H H') {L bd : Addr} {st : Sta} (h : LwAt K (dl M H) H L bd st) : LwAt K (dl M H') H' L bd st := by
  obtain ⟨d, a, h, hvs, h1, h2, h3, h4, h5⟩ := h
  have f := nt_dl (M := M) e
  exact ⟨d, a, h, hvs, e _ _ h1 (fun _ z => by cases z), h2.ext f, h3.ext f, f _ _ h4 (fun _ z => by cases z), K56.Paired.imp (fun _ _ z => LeAt.ext f z) h5⟩
theorem DuAt.ext (e : Nt G G') {p : Addr} {o : Option Due} (h : DuAt G p o) : DuAt G' p o := by
  cases o with
  | none => exact e _ _ h (fun _ z => by cases z)
  | some u =>
    cases u with
    | broken i f =>
      obtain ⟨v, h1, h2⟩ := h
      refine ⟨v, ?_, e _ _ h2 (fun _ z => by cases z)⟩
      cases f with
      | ld o => exact h1
      | co l =>
        obtain ⟨t, h3, h4⟩ := h1
        exact ⟨t, h3, e _ _ h4 (fun _ z => by cases z)⟩
    | _ => exact e _ _ h (fun _ z => by cases z)
/-- each of M stands, and is no table -/
def Lt (M : List Addr) (H : Hp) : Prop := ∀ m ∈ M, ∃ o, H m = some o ∧ ∀ ps, o ≠ .tbl ps
theorem Lt.lv {M : List Addr} {H : Hp} (h : Lt M H) : Lv M H := fun m hm => by
  obtain ⟨o, h1, _⟩ := h m hm
  exact ⟨o, h1⟩
theorem Lt.ext {M : List Addr} {H H' : Hp} (h : Lt M H) (e : Nt H H') : Lt M H' := fun m hm => by
  obtain ⟨o, h1, h2⟩ := h m hm
  exact ⟨o, e _ _ h1 h2, h2⟩
theorem Lt.fr {M : List Addr} {H H' : Hp} (h : Lt M H) {m : Addr} {o : HO} (f : Fr m H H') (hm : H' m = some o) (n : ∀ ps, o ≠ .tbl ps) : Lt M H' := fun b hb => by
  by_cases e : b = m
  · exact ⟨o, by rw [e]; exact hm, n⟩
  · obtain ⟨u, h1, h2⟩ := h b hb
    exact ⟨u, f _ _ e h1, h2⟩
end
theorem nt_of {H H' : Hp} (S : Same H H') : Nt H H' := fun b o h _ => S b o h
theorem TabS.fr {H H' : Hp} {P m : Addr} {q : Str} {o : HO} (t : LamX.TabS H P q) (f : Fr m H H') (hm : H m = some o) (n1 : ∀ ps, o ≠ .tbl ps) (n2 : ∀ g, o ≠ .ext g) : LamX.TabS H' P q := by
  obtain ⟨ps, h1, h2, h3⟩ := t
  refine ⟨ps, f _ _ (fun e => by rw [e, hm] at h1; exact n1 _ (Option.some.inj h1)) h1, h2, fun pos cv hc => ?_⟩
  obtain ⟨c, e1, e2⟩ := h3 pos cv hc
  exact ⟨c, e1, f _ _ (fun e => by rw [e, hm] at e2; exact n2 _ (Option.some.inj e2)) e2⟩
theorem Tabs.fr {T : List (Addr × Str)} {H H' : Hp} {m : Addr} {o : HO} (t : LamX.Tabs T H) (f : Fr m H H') (hm : H m = some o) (n1 : ∀ ps, o ≠ .tbl ps) (n2 : ∀ g, o ≠ .ext g) : LamX.Tabs T H' := fun p hp => TabS.fr (t p hp) f hm n1 n2
/-- all but S and tables stays -/
def Fx (S : List Addr) (H H' : Hp) : Prop := ∀ b o, b ∉ S → H b = some o → (∀ ps, o ≠ .tbl ps) → H' b = some o
theorem Fx.trans {S : List Addr} {H H' H'' : Hp} (a : Fx S H H') (b : Fx S H' H'') : Fx S H H'' := fun c o n e h => b c o n (a c o n e h) h
theorem Fx.same {S : List Addr} {H H' : Hp} (s : Same H H') : Fx S H H' := fun b o _ e _ => s b o e
theorem Fx.nt {S : List Addr} {H H' : Hp} (s : Nt H H') : Fx S H H' := fun b o _ e n => s b o e n
theorem Fx.fr {S : List Addr} {H H' : Hp} {m : Addr} (f : Fr m H H') (hm : m ∈ S) : Fx S H H' := fun b o n e _ => f b o (fun z => n (z ▸ hm)) e
/-! ### what is due, as data -/
def duD : Option Due → List PyData
  | none => []
  | some (.broken i f) => [.str "Broken", .int (i : Nat), fdD f]
  | some (.unknown n) => [.str "UnknownName", .str (nmS n)]
  | some (.inuse i) => [.str "InUse", .int (i : Nat)]
  | some (.place i) => [.str "InvalidPlace", .int i]
  | some .nothing => [.str "NothingToUndo"]
theorem dp_du {K : PySem.W.Frag} {H : Hp} {p : Addr} {o : Option Due} (h : DuAt H p o) : Dp K H (.ref p) (.list (duD o)) := by
  cases o with
  | none => exact .lst (SqL.of h) .nil
  | some u =>
    cases u with
    | broken i f =>
      obtain ⟨v, hv, hp⟩ := h
      exact .lst (SqL.of hp) (.cons (.str _) (.cons (.int _) (.cons (dp_fd K hv) .nil)))
    | unknown n => exact .lst (SqL.of h) (.cons (.str _) (.cons (.str _) .nil))
    | inuse i => exact .lst (SqL.of h) (.cons (.str _) (.cons (.int _) .nil))
    | place i => exact .lst (SqL.of h) (.cons (.str _) (.cons (.int _) .nil))
    | nothing => exact .lst (SqL.of h) (.cons (.str _) .nil)
theorem du_shaped (o : Option Due) : SeqAt.shaped (.list (duD o)) = true := by
  cases o with
  | none => rfl
  | some u =>
    cases u with
    | broken i f =>
      obtain ⟨h1, h2⟩ := fd_lay f
      unfold SeqAt.shaped
      have e1 : PyData.canLay0 (.list (duD (some (.broken i f)))) = (PyData.canLay0 (.str "Broken") && (true && (PyData.canLay0 (fdD f) && true))) := rfl
      have e2 : PyData.depth (.list (duD (some (.broken i f)))) = max 0 (max 0 (max (PyData.depth (fdD f)) 0)) + 1 := rfl
      rw [e1, h1, e2, show PyData.canLay0 (.str "Broken") = true by decide +kernel]
      simp
      omega
    | unknown n => cases n <;> decide +kernel
    | inuse i =>
      unfold SeqAt.shaped
      rw [show PyData.canLay0 (.list (duD (some (.inuse i)))) = (PyData.canLay0 (.str "InUse") && (true && true)) from rfl, show PyData.canLay0 (.str "InUse") = true by decide +kernel]
      rfl
    | place i =>
      unfold SeqAt.shaped
      rw [show PyData.canLay0 (.list (duD (some (.place i)))) = (PyData.canLay0 (.str "InvalidPlace") && (true && true)) from rfl, show PyData.canLay0 (.str "InvalidPlace") = true by decide +kernel]
      rfl
    | nothing => decide +kernel
theorem du_eqv (o : Option Due) : PyData.eqv (.list (duD o)) (.list []) = o.isNone := by
  cases o with
  | none => rfl
  | some u => cases u <;> rfl
theorem sm_fd {f : Fd} (h : f.ok) : Sm 1 80000 (fdD f) := by
  cases f with
  | ld o =>
    cases o with
    | none => exact Sm.str (by decide +kernel)
    | some i =>
      have h : -100000 ≤ i ∧ i ≤ 100000 := h
      exact (Sm.int (k := 1) (by omega) (by omega)).mono (Nat.le_refl _) (by decide)
  | co l =>
    have h : l.length ≤ 700 ∧ ∀ x ∈ l, -3 ≤ x ∧ x ≤ 3 := h
    refine (Sms.tup (Sms.all (k := 0) (n := 104) fun d hd => ?_)).mono (Nat.le_refl _) ?_
    · obtain ⟨x, hx, rfl⟩ := List.mem_map.mp hd
      have := h.2 x hx
      exact Sm.int (by omega) (by omega)
    · rw [List.length_map]; omega
theorem sm_du {u : Due} (h : u.ok) : Sm 60 300000 (.list (duD (some u))) := by
  cases u with
  | broken i f =>
    have h : i ≤ 10 ∧ f.ok := h
    exact (Sms.lst (k := 1) (.cons (n := 20) (Sm.str (by decide +kernel)) (.cons (Sm.int (by omega) (by omega)) (.cons (sm_fd h.2) (.nil 1 0))))).mono (by decide) (by decide)
  | unknown n => exact (Sms.lst (k := 1) (.cons (n := 20) (Sm.str (by decide +kernel)) (.cons (sm_nm 1 n) (.nil 1 0)))).mono (by decide) (by decide)
  | inuse i =>
    have h : i ≤ 10 := h
    exact (Sms.lst (k := 1) (.cons (n := 20) (Sm.str (by decide +kernel)) (.cons (Sm.int (by omega) (by omega)) (.nil 1 0)))).mono (by decide) (by decide)
  | place i =>
    have h : -100 ≤ i ∧ i ≤ 100 := h
    exact (Sms.lst (k := 1) (.cons (n := 20) (Sm.str (by decide +kernel)) (.cons (Sm.int (by omega) (by omega)) (.nil 1 0)))).mono (by decide) (by decide)
  | nothing => exact (Sms.lst (k := 1) (.cons (n := 20) (Sm.str (by decide +kernel)) (.nil 1 0))).mono (by decide) (by decide)
def lamQ : Str := d_law_did.qual ++ ".<locals>." ++ "<lambda>"
section
variable {w : World} {K : PySem.W.Frag} {mg : Str → Option Value} {base : Heap}
/-- the desk, the state and the tables -/
structure WAt (K : PySem.W.Frag) (M : List Addr) (H : Hp) (dk bd L : Addr) (st : Sta) : Prop where
  lt : Lt M H
  dk : DkAt K (dl M H) H dk bd st
  lw : LwAt K (dl M H) H L bd st
  tb : LamX.Tabs [((He.cT K d_law_did.at_).2, lamQ)] H
def after (ms : List Int) (st : Sta) (dd : Dd) : Sta := if (due ms st dd).isSome = true then st else K56.become st dd
def sp_law_did (K : PySem.W.Frag) : Sp := fun vs H Q _ => ∃ (M : List Addr) (dk bd L de : Addr) (st : Sta) (lo hi : Int) (dd : Dd), vs = [.ref dk, .ref L, .ref de] ∧ dk ∈ M ∧ L ∈ M ∧ WAt K M H dk bd L st ∧ DdAt K (dl M H) de dd ∧ dd.ok ∧ BdAt H bd lo hi ∧ (-3 ≤ lo ∧ lo ≤ hi ∧ hi ≤ 3 ∧ hi - lo ≤ 2) ∧ StOk 100 st ∧
  ∀ H', Fx [dk, L] H H' → WAt K M H' dk bd L (after (moves lo hi) st dd) → Q (.bl true) H'
theorem sc_law_did : FnScope ["_law_desk", "_law_state", "_law_deed", "_law_due", "_law_seen"] ["_law_desk", "_law_state", "_law_deed"] (defScope s_law_did) := by walk_at "sc"
theorem ok_law_did (T : Tx w K mg) (TB : LamX.TabB base mg (He.cT K d_law_did.at_).1 (He.cT K d_law_did.at_).2) : FnG PG w K mg base 20 (ga K "_law_did") (sp_law_did K) := by
  obtain ⟨fd, F⟩ := T.fn _ m_law_did
  refine fn_mkG (at_ := d_law_did.at_) F (F.bindsN fun _ _ _ _ _ _ us hl => match us, hl with | [_, _, _], _ => rfl) sc_law_did (fun vs H Q E h => by obtain ⟨M, dk, bd, L, de, st, lo, hi, dd, rfl, hMd, hML, hWA, hdd, hdk, hbd, hz, ok, q⟩ := h; rfl) ?_
  intro cdv A outer s0 H vs Q E hcd hg hr h
  obtain ⟨fdT, FT⟩ := T.fn _ m_law_told
  have hbT : Binds K fdT ["_law_act"] [] := FT.bindsN fun _ _ _ _ _ _ us hl => match us, hl with | [_], _ => rfl
  obtain ⟨oc, od, dV, kV, doc, pm, an, cdT, ct, osl, rfl, lkT, hcT, _, _⟩ := FT.ex
  obtain ⟨M, dk, bd, L, de, st, lo, hi, dd, rfl, hMd, hML, hWA, hdd, hdk, hbd, hz, ok, q⟩ := h
  refine ⟨_, PSs.nox (pss_cons (ps_set (i := 3) sc_law_did.nd rfl (Or.inl rfl) (pe_cl (ok_law_due_deed T) (hr.mono (by decide)) (T.g "_law_due_deed") (T.kp _ m_law_due_deed) (fun _ => pas0) (pa_cons (pv 1) (pa_cons (pv 2) pa_nil))))
    (pss_cons (ps_set (i := 4) sc_law_did.nd rfl (Or.inl rfl) (LamX.pe_lamcall (T := [((He.cT K d_law_did.at_).2, lamQ)]) (TT := TTold K) (k := 17) (a := "_law_act") (Ng := ["_law_act", "_law_value", "e"]) (c := (He.cT K d_law_did.at_).1) (P := (He.cT K d_law_did.at_).2) (t := fun E => tCl (sp_law_do K) (fun _ => E) (tCons (tVar 0) (tCons (tVar 2) tNil))) rfl (T.g "_law_told") (T.kp _ m_law_told) lkT hcT hbT sc_law_told rfl (Or.inl rfl) (law_gives T) TB hcd (List.mem_singleton.mpr rfl) (fun p hp _ => by rw [List.mem_singleton.mp hp] <;> rfl) (hr.mono (by decide)) (by refine LamX.lamS_by ?_; show LamX.lamSB (defScope s_law_did) _ = true; decide +kernel) rfl (fun _ _ _ _ _ => rfl) (fun A outer s H E f c hr2 => pe_cl (ok_law_do T) hr2 (T.g "_law_do") (T.kp _ m_law_do) (fun σ => pasE (takes_of rfl rfl rfl rfl) σ fun _ _ _ z => z) (pa_cons (pv 0) (pa_cons (pv 2) pa_nil)))))
    (pss_cons (ps_if (pt_cmpR (op_neD (hu_le hr)) (pv 3) (pe_lst pa_nil) (nomark _)) (pss_one (ps_ret (pe_cmpR op_eq (pe_callB (call_reprD hg (hu_le hr)) rfl (T.f "repr") (by decide +kernel) (pa_cons (pv 4) pa_nil)) (pe_callB (call_reprD hg (hu_le hr)) rfl (T.f "repr") (by decide +kernel) (pa_cons (pv 3) pa_nil)) (nomark _)))) pss_nil)
    (pss_cons (ps_expr (pe_cl (ok_law_become T) (hr.mono (by decide)) (T.g "_law_become") (T.kp _ m_law_become) (fun _ => pas0) (pa_cons (pv 1) (pa_cons (pv 2) pa_nil))))
    (pss_one (ps_ret (pe_cmpR op_eq (pe_callB (call_reprD hg (hu_le hr)) rfl (T.f "repr") (by decide +kernel) (pa_cons (pv 4) pa_nil)) (pe_callB (call_reprD hg (hu_le hr)) rfl (T.f "repr") (by decide +kernel) (pa_cons (pe_lst (pa_cons pe_str (pa_cons pe_non pa_nil))) pa_nil)) (nomark _)))))))), ?_⟩
  walk_at "rd"
  refine ⟨M, L, bd, de, st, lo, hi, dd, rfl, hWA.lw, hdd, hbd, hz, ok, fun H1 p1 S1 du1 => ?_⟩
  walk_at "rd"
  refine ⟨hWA.tb.ext S1, fun H2 E2 T2 => ?_⟩
  have D1 := hWA.dk.same S1
  have W1 := hWA.lw.same S1
  have L1 : Lt M H1 := hWA.lt.ext (nt_of S1)
  have D2 := D1.ext E2
  have W2 := W1.ext E2
  have Lt2 : Lt M H2 := L1.ext E2
  have E02 : Nt H H2 := (nt_of S1).trans E2
  have dd2 : DdAt K (dl M H2) de dd := hdd.ext (nt_dl E02)
  have bd2 : BdAt H2 bd lo hi := E02 _ _ hbd (fun _ z => by cases z)
  have du2 : DuAt H2 p1 (due (moves lo hi) st dd) := du1.ext E2
  have hne : dk ≠ L := by
    obtain ⟨dx, s, n, td, tc, p, pvs, h1, _⟩ := hWA.dk
    obtain ⟨d, a, h, hvs, h2, _⟩ := hWA.lw
    exact ne_of h1 h2 (by simp)
  walk_at "rd"
  refine ⟨M, dk, bd, de, st, lo, hi, dd, rfl, hMd, Lt2.lv, D2, dd2, bd2, hz, ok, fun hdu H3 F3 D3 => ?_, fun u hdu cls x H3 S3 hx => ?_⟩
  · rw [hdu] at du2
    have du2 : H2 p1 = some (.lst []) := du2
    obtain ⟨dx, s, n, td, tc, p, pvs, k1, _⟩ := id D2
    obtain ⟨dx3, s3, n3, td3, tc3, p3, pvs3, k3, _⟩ := id D3
    have W3 := W2.fr hMd F3 (Ne.symm hne)
    have dd3 : DdAt K (dl M H3) de dd := dd2.mono (F3.dl hMd)
    have T3 := Tabs.fr T2 F3 k1 (fun _ z => by cases z) (fun _ z => by cases z)
    have Lt3 := Lt2.fr F3 k3 (fun _ z => by cases z)
    have du3 := F3 _ _ (ne_of du2 k1 (by simp)) du2
    refine ⟨.non, rfl, by show 2 ≤ sizeLine; decide, fun p4 hp4 => ?_⟩
    generalize e4 : upd H3 p4 _ = H4
    have S4 : Same H3 H4 := e4 ▸ same_new hp4
    have u4 : H4 p4 = some (.lst [.str "told", .non]) := e4 ▸ upd_same
    walk_at "rd"
    refine ⟨by show 0 ≤ sizeLine; decide, fun p5 hp5 => ?_⟩
    generalize e5 : upd H4 p5 _ = H5
    have S5 : Same H4 H5 := e5 ▸ same_new hp5
    have u5 : H5 p5 = some (.lst []) := e5 ▸ upd_same
    have S35 := S4.trans S5
    refine ⟨.list (duD none), _, dp_du (o := none) (S35 _ _ du3), .lst (SqL.of u5) .nil, du_shaped none, rfl, ?_⟩
    rw [du_eqv]
    refine ⟨_, rfl, ?_⟩
    refine ite_f rfl ?_
    have Lt5 := Lt3.ext (nt_of S35)
    have W5 := W3.same S35
    have D5 := D3.same S35
    have T5 := T3.ext S35
    have dd5 : DdAt K (dl M H5) de dd := dd3.mono (K56.Same.dl S35)
    walk_at "rd"
    refine ⟨M, L, bd, de, st, moves lo hi, dd, rfl, hML, Lt5.lv, W5, dd5, ok, hdu, fun H6 F6 W6 => ?_⟩
    obtain ⟨d5, a5, h5, hvs5, l5, _⟩ := id W5
    obtain ⟨d6, a6, h6, hvs6, l6, _⟩ := id W6
    obtain ⟨d3, a3, h3, hvs3, l3, _⟩ := id W3
    have D6 := D5.fr hML F6 hne
    have T6 := Tabs.fr T5 F6 l5 (fun _ z => by cases z) (fun _ z => by cases z)
    have Lt6 := Lt5.fr F6 l6 (fun _ z => by cases z)
    have u46 := F6 _ _ (Ne.symm (ne_of_none l3 hp4)) (S5 _ _ u4)
    have hsm : Sm 60 300000 (.list [.str "told", .none]) := (Sms.lst (k := 1) (.cons (n := 20) (Sm.str (by decide +kernel)) (.cons (n := 0) Sm.non (.nil 1 0)))).mono (by decide) (by decide)
    obtain ⟨g1, g2, g3, g4⟩ := hsm.shown (Nat.le_refl _)
    walk_at "rd"
    refine ⟨p4, .list [.str "told", .none], rfl, .lst (SqL.of u46) (.cons (.str _) (.cons .non .nil)), g1, g2, g3, g4, ?_⟩
    walk_at "rd"
    refine ⟨by show 2 ≤ sizeLine; decide, fun p7 hp7 => ?_⟩
    generalize e7 : upd H6 p7 _ = H7
    have S7 : Same H6 H7 := e7 ▸ same_new hp7
    have u7 : H7 p7 = some (.lst [.str "told", .non]) := e7 ▸ upd_same
    refine ⟨p7, .list [.str "told", .none], rfl, .lst (SqL.of u7) (.cons (.str _) (.cons .non .nil)), g1, g2, g3, g4, ?_⟩
    generalize (PyData.list [.str "told", .none]).shown = sh
    have haf : after (moves lo hi) st dd = K56.become st dd := by unfold after; rw [hdu]; rfl
    rw [haf] at q
    have q1 := q H7 (((((Fx.nt E02).trans (Fx.fr F3 (by simp))).trans (Fx.same S35)).trans (Fx.fr F6 (by simp))).trans (Fx.same S7)) ⟨Lt6.ext (nt_of S7), D6.same S7, W6.same S7, T6.ext S7⟩
    have e9 : decide (V.str sh = V.str sh) = true := decide_eq_true rfl
    refine ⟨rfl, ?_⟩
    show Q (.bl (decide (V.str sh = V.str sh))) H7
    rw [e9]
    exact q1
  · rw [hdu] at du2
    have hb := moves_band hz.1 hz.2.2.1 hz.2.2.2
    have htb : TbOk st.tb := by
      obtain ⟨d, a, h, hvs, _, hT, _⟩ := hWA.lw
      exact fun p hp => (hT.2 p hp).2
    obtain ⟨g1, g2, g3, g4⟩ := (sm_du (due_ok hb htb ok hdk hdu)).shown (Nat.le_refl _)
    refine ⟨u, hx, fun H4 p4 S4 du4 => ?_⟩
    walk_at "rd"
    refine ⟨by show 0 ≤ sizeLine; decide, fun p5 hp5 => ?_⟩
    generalize e5 : upd H4 p5 _ = H5
    have S5 : Same H4 H5 := e5 ▸ same_new hp5
    have u5 : H5 p5 = some (.lst []) := e5 ▸ upd_same
    have S25 := (S3.trans S4).trans S5
    have v1 := dp_du (K := K) (du2.ext (nt_of S25))
    have v4 := dp_du (K := K) (du4.ext (nt_of S5))
    refine ⟨_, _, v1, .lst (SqL.of u5) .nil, du_shaped (some u), rfl, ?_⟩
    rw [du_eqv]
    refine ⟨_, rfl, ?_⟩
    refine ite_t rfl ?_
    walk_at "rd"
    refine ⟨p4, _, rfl, v4, g1, g2, g3, g4, ?_⟩
    walk_at "rd"
    refine ⟨p1, _, rfl, v1, g1, g2, g3, g4, ?_⟩
    generalize (PyData.list (duD (some u))).shown = sh
    have haf : after (moves lo hi) st dd = st := by unfold after; rw [hdu]; rfl
    rw [haf] at q
    have q1 := q H5 ((Fx.nt E02).trans (Fx.same S25)) ⟨Lt2.ext (nt_of S25), D2.same S25, W2.same S25, T2.ext S25⟩
    have e9 : decide (V.str sh = V.str sh) = true := decide_eq_true rfl
    refine ⟨rfl, ?_⟩
    show Q (.bl (decide (V.str sh = V.str sh))) H5
    rw [e9]
    exact q1
end
end K56
namespace K56
open PySem PySem.Spec PyProof.Rows L2
local macro_rules | `(tactic| walk_at "rd") => `(tactic| repeat (first | (refine ⟨_, rfl, ?_⟩) | (refine ⟨_, _, rfl, rfl, ?_⟩) | (refine ⟨rfl, ?_⟩) | (refine ⟨_, (by assumption : _ = some (HO.tup _)), ?_⟩) | (refine ⟨_, _, _, _, rfl, rfl, SqT.of (by assumption), rfl, ?_⟩) | (refine ⟨_, _, _, _, rfl, rfl, SqL.of (by assumption), rfl, ?_⟩) | (refine ⟨_, _, rfl, .inr (SqT.of (by assumption)), ?_⟩) | (refine ⟨_, _, rfl, .inl (SqL.of (by assumption)), ?_⟩) | (refine ⟨_, _, rfl, SqT.of (by assumption), rfl, ?_⟩) | (refine ⟨_, _, _, _, _, rfl, (by assumption : _ = some (HO.ins _ _ _)), Tx.cls (by assumption) _ (by decide +kernel), Tx.noat (by assumption) _ _ (by decide +kernel), rfl, ?_⟩) | (refine ⟨_, _, _, rfl, (by assumption : _ = some (HO.ins _ _ _)), _, _, rfl, (by assumption : ClAt _ _ _ _), ?_⟩) | (refine ⟨_, _, _, _, rfl, (by assumption : _ = some (HO.ins _ _ _)), Tx.cls (by assumption) _ (by decide +kernel), Tx.noat (by assumption) _ _ (by decide +kernel), Nat.le_of_ble_eq_true rfl, ?_⟩) | (refine ⟨_, _, rfl, SqT.of (by assumption), ?_⟩) | (refine ⟨_, _, rfl, SqL.of (by assumption), ?_⟩) | (refine ⟨_, _, rfl, ?_⟩) | (refine ⟨_, _, _, rfl, (by assumption : _ = some (HO.ins _ _ _)), ?_⟩) | (refine ⟨_, _, _, rfl, (by assumption : _ = some (HO.tup _)), ?_⟩) | (refine ⟨_, _, _, rfl, (by assumption : ClAt _ _ _ _), ?_⟩) | (refine ⟨_, _, _, _, _, rfl, (by assumption : ClAt _ _ _ _), (by assumption : _ = some (HO.tup _)), ?_⟩) | (refine ⟨.inl ⟨rfl, _, SqL.of (by assumption)⟩, ?_⟩) | (refine ⟨⟨_, SqL.of (by assumption)⟩, ?_⟩) | (refine ⟨⟨_, SqT.of (by assumption)⟩, ?_⟩) | (with_reducible refine ite_t ?kc ?kg; (case kc => simp; done)) | (with_reducible refine ite_f ?kc ?kg; (case kc => simp; done))))
local macro_rules | `(tactic| walk_at "sc") => `(tactic| exact ⟨rfl, rfl, rfl, by decide +kernel, rfl, by decide +kernel, by decide +kernel⟩)
theorem cut_ints (ns : List Int) (a b : Option Int) : ∃ l : List Int, cutV (ns.map V.int) a b = l.map V.int ∧ l.length ≤ ns.length := by
  unfold cutV
  rw [List.length_map, ← List.map_drop, ← List.map_take]
  refine ⟨_, rfl, ?_⟩
  rw [List.length_take, List.length_drop]
  omega
section
variable {w : World} {K : PySem.W.Frag} {mg : Str → Option Value} {base : Heap}
theorem SqL.nt {H H' : Hp} (e : ∀ b o, H b = some o → (∀ ps, o ≠ .tbl ps) → H' b = some o) {a : Addr} {xs : List V} (h : SqL K H a xs) : SqL K H' a xs := by
  rcases h with (h | ⟨o, h⟩) | ⟨h1, h2⟩
  · exact .inl (.inl (e _ _ h (fun _ z => by cases z)))
  · exact .inl (.inr ⟨o, e _ _ h (fun _ z => by cases z)⟩)
  · exact .inr ⟨h1, h2⟩
def sp_law_cup (K : PySem.W.Frag) : Sp := fun vs H Q _ => ∃ (xs : Addr) (ns : List Int) (turn : Nat), vs = [.ref xs, .int (turn : Nat)] ∧ SqL K H xs (ns.map V.int) ∧ turn ≤ 2 ∧ ns.length ≤ 63 ∧ ∀ H' c, Same H H' → CupAt H' c → H c = none → Q (.ref c) H'
theorem sc_law_cup : FnScope ["_law_cells", "_law_turn", "_law_cell", "_law_mixed", "_law_each"] ["_law_cells", "_law_turn"] (defScope s_law_cup) := by walk_at "sc"
theorem ok_law_cup (T : Tx w K mg) : Fn PG w K mg base 1 (ga K "_law_cup") (sp_law_cup K) := by
  obtain ⟨fd, F⟩ := T.fn _ m_law_cup
  refine fn_mk F (F.bindsN fun _ _ _ _ _ _ us hl => match us, hl with | [_, _], _ => rfl) sc_law_cup (fun vs H Q E h => by obtain ⟨xs, ns, turn, rfl, hx, ht, hn, q⟩ := h; rfl) ?_
  intro cdv A outer s H vs Q E hr h
  refine ⟨_, PSs.nox (pss_cons (ps_set (i := 2) sc_law_cup.nd rfl (Or.inl rfl) (pe_ifExp (pt_cmpR op_lt (pv 1) (pe_callB call_len_seq rfl (T.f "len") (by decide +kernel) (pa_cons (pv 0) pa_nil)) (nomark _)) (pe_ix ix_list (pv 0) (pv 1) (fun _ _ => rfl)) (pe_op op_add (pv 1) pe_int)))
    (pss_cons (ps_set (i := 3) sc_law_cup.nd rfl (Or.inl rfl) (pe_op op_add pe_int (pe_op op_mul pe_int (pv 1))))
    (pss_cons (ps_for PassesOwn.never rfl (pi_list (pe_op op_cat (pe_slice sl_list (pv 0) po_none (po_some pe_int)) (pe_lst (pa_cons (pv 2) pa_nil)))) (pg_name (i := 4) sc_law_cup.nd rfl (Or.inl rfl)) (pss_one (ps_set (i := 3) sc_law_cup.nd rfl (Or.inl rfl) (pe_op op_modN (pe_callTy call_int1 rfl (T.f "int") (by decide +kernel) (pa_cons (pe_op op_add (pe_op op_mul (pv 3) pe_int) (pv 4)) pa_nil)) pe_int))))
    (pss_one (ps_ret (pe_lst (pa_cons (pe_ifExp (PW.pt (pw_or (pt_cmpR op_lt (pv 2) pe_int (nomark _)) (pw_or1 (pt_cmpR op_ge (pv 2) (pe_op op_pow pe_int pe_int) (nomark _))))) (pe_callB call_abs rfl (T.f "abs") (by decide +kernel) (pa_cons (pv 2) pa_nil)) pe_int) (pa_cons (pv 3) (pa_cons pe_int pa_nil))))))))), ?_⟩
  obtain ⟨xs, ns, turn, rfl, hx, ht, hn, q⟩ := h
  walk_at "rd"
  refine ⟨_, _, rfl, .inl hx, ?_⟩
  walk_at "rd"
  refine ite_d (fun c => ?_) (fun c => ?_)
  · have hlt : turn < ns.length := by
      rw [List.length_map] at c
      omega
    have hget : (ns.map V.int)[turn]? = some (.int ns[turn]) := by rw [List.getElem?_map, List.getElem?_eq_getElem hlt]; rfl
    generalize (ns[turn] : Int) = cell at hget
    walk_at "rd"
    refine ⟨_, _, _, _, rfl, rfl, hx, atI_nat hget, ?_⟩
    clear c hlt hget
    walk_at "rd"
    refine ⟨.inl (by decide), ?_⟩
    walk_at "rd"
    refine ⟨_, _, rfl, hx, fun p1 hp1 => ?_⟩
    obtain ⟨l, hl, hll⟩ := cut_ints ns none (some 4)
    rw [hl]
    generalize e1 : upd H p1 _ = H1
    have S1 : Same H H1 := e1 ▸ same_new hp1
    have u1 : H1 p1 = some (.lst (l.map V.int)) := e1 ▸ upd_same
    walk_at "rd"
    refine ⟨by show 1 ≤ sizeLine; decide, fun p2 hp2 => ?_⟩
    generalize e2 : upd H1 p2 _ = H2
    have S2 : Same H1 H2 := e2 ▸ same_new hp2
    have u2 : H2 p2 = some (.lst [.int (cell)]) := e2 ▸ upd_same
    have u12 := S2 _ _ u1
    refine ⟨_, _, _, _, rfl, rfl, u12, u2, by rw [List.length_map, sizeLine_eq]; show _ + 1 ≤ _; omega, fun p3 hp3 => ?_⟩
    generalize e3 : upd H2 p3 _ = H3
    have S3 : Same H2 H3 := e3 ▸ same_new hp3
    have u3 : H3 p3 = some (.lst ((l ++ [cell]).map V.int)) := by rw [← e3, upd_same, List.map_append]; rfl
    have S03 := (S1.trans S2).trans S3
    walk_at "rd"
    refine for_it (walk_list (xs := (l ++ [cell]).map V.int)) (fun i σ H4 => Same H H4 ∧ H4 p3 = some (.lst ((l ++ [cell]).map V.int)) ∧ ∃ (m : Int) (v : Option V), σ = [some (.ref xs), some (.int (turn : Nat)), some (.int (cell)), some (.int m), v]) ⟨S03, u3, _, _, rfl⟩ (fun _ _ H4 _ h => SqL.of h.2.1) (fun i v σ H4 H5 hi h hy => ?_) fun σ H4 h => ?_
    · obtain ⟨S4, u4, m, v4, rfl⟩ := h
      obtain ⟨rfl, hv⟩ := hy
      rw [List.getElem?_map] at hv
      obtain ⟨z, _, rfl⟩ := Option.map_eq_some_iff.mp hv
      walk_at "rd"
      refine ⟨.inr (by decide), ?_⟩
      walk_at "rd"
      refine .inl ⟨_, rfl, ?_⟩
      walk_at "rd"
      refine ⟨show (2147483477 : Int) ≠ 0 by decide, ?_⟩
      walk_at "rd"
      exact ⟨S4, u4, _, _, rfl⟩
    · obtain ⟨S4, u4, m, v4, rfl⟩ := h
      have fin : ∀ (k : Int) (p : Addr), H4 p = none → Q (.ref p) (upd H4 p (.lst [.int k, .int m, .int 0])) := fun k p hp => q _ p (S4.trans (same_new hp)) ⟨_, _, _, upd_same⟩ (S4.free hp)
      walk_at "rd"
      refine ite_d (fun c1 => ?_) (fun c1 => ?_)
      · walk_at "rd"
        exact ⟨by show 3 ≤ sizeLine; decide, fun p hp => fin _ p hp⟩
      · clear c1
        walk_at "rd"
        refine ⟨⟨by decide, by decide, by decide⟩, ?_⟩
        walk_at "rd"
        refine ite_d (fun c2 => ?_) (fun c2 => ?_)
        · walk_at "rd"
          exact ⟨by show 3 ≤ sizeLine; decide, fun p hp => fin _ p hp⟩
        · walk_at "rd"
          exact ⟨by show 3 ≤ sizeLine; decide, fun p hp => fin _ p hp⟩
  · clear c
    walk_at "rd"
    refine ⟨.inl (by decide), ?_⟩
    walk_at "rd"
    refine ⟨_, _, rfl, hx, fun p1 hp1 => ?_⟩
    obtain ⟨l, hl, hll⟩ := cut_ints ns none (some 4)
    rw [hl]
    generalize e1 : upd H p1 _ = H1
    have S1 : Same H H1 := e1 ▸ same_new hp1
    have u1 : H1 p1 = some (.lst (l.map V.int)) := e1 ▸ upd_same
    walk_at "rd"
    refine ⟨by show 1 ≤ sizeLine; decide, fun p2 hp2 => ?_⟩
    generalize e2 : upd H1 p2 _ = H2
    have S2 : Same H1 H2 := e2 ▸ same_new hp2
    have u2 : H2 p2 = some (.lst [.int ((turn : Int) + 2)]) := e2 ▸ upd_same
    have u12 := S2 _ _ u1
    refine ⟨_, _, _, _, rfl, rfl, u12, u2, by rw [List.length_map, sizeLine_eq]; show _ + 1 ≤ _; omega, fun p3 hp3 => ?_⟩
    generalize e3 : upd H2 p3 _ = H3
    have S3 : Same H2 H3 := e3 ▸ same_new hp3
    have u3 : H3 p3 = some (.lst ((l ++ [(turn : Int) + 2]).map V.int)) := by rw [← e3, upd_same, List.map_append]; rfl
    have S03 := (S1.trans S2).trans S3
    walk_at "rd"
    refine for_it (walk_list (xs := (l ++ [(turn : Int) + 2]).map V.int)) (fun i σ H4 => Same H H4 ∧ H4 p3 = some (.lst ((l ++ [(turn : Int) + 2]).map V.int)) ∧ ∃ (m : Int) (v : Option V), σ = [some (.ref xs), some (.int (turn : Nat)), some (.int ((turn : Int) + 2)), some (.int m), v]) ⟨S03, u3, _, _, rfl⟩ (fun _ _ H4 _ h => SqL.of h.2.1) (fun i v σ H4 H5 hi h hy => ?_) fun σ H4 h => ?_
    · obtain ⟨S4, u4, m, v4, rfl⟩ := h
      obtain ⟨rfl, hv⟩ := hy
      rw [List.getElem?_map] at hv
      obtain ⟨z, _, rfl⟩ := Option.map_eq_some_iff.mp hv
      walk_at "rd"
      refine ⟨.inr (by decide), ?_⟩
      walk_at "rd"
      refine .inl ⟨_, rfl, ?_⟩
      walk_at "rd"
      refine ⟨show (2147483477 : Int) ≠ 0 by decide, ?_⟩
      walk_at "rd"
      exact ⟨S4, u4, _, _, rfl⟩
    · obtain ⟨S4, u4, m, v4, rfl⟩ := h
      have fin : ∀ (k : Int) (p : Addr), H4 p = none → Q (.ref p) (upd H4 p (.lst [.int k, .int m, .int 0])) := fun k p hp => q _ p (S4.trans (same_new hp)) ⟨_, _, _, upd_same⟩ (S4.free hp)
      walk_at "rd"
      walk_at "rd"
      refine ⟨⟨by decide, by decide, by decide⟩, ?_⟩
      walk_at "rd"
      refine ite_d (fun c2 => ?_) (fun c2 => ?_)
      · walk_at "rd"
        exact ⟨by show 3 ≤ sizeLine; decide, fun p hp => fin _ p hp⟩
      · walk_at "rd"
        exact ⟨by show 3 ≤ sizeLine; decide, fun p hp => fin _ p hp⟩
end
end K56
namespace K56
open PySem PySem.Spec PyProof.Rows L2
local macro_rules | `(tactic| walk_at "rd") => `(tactic| repeat (first | (refine ⟨_, rfl, ?_⟩) | (refine ⟨_, _, rfl, rfl, ?_⟩) | (refine ⟨rfl, ?_⟩) | (refine ⟨_, (by assumption : _ = some (HO.tup _)), ?_⟩) | (refine ⟨_, _, _, _, rfl, rfl, SqT.of (by assumption), rfl, ?_⟩) | (refine ⟨_, _, _, _, rfl, rfl, SqL.of (by assumption), rfl, ?_⟩) | (refine ⟨_, _, rfl, .inr (SqT.of (by assumption)), ?_⟩) | (refine ⟨_, _, rfl, .inl (SqL.of (by assumption)), ?_⟩) | (refine ⟨_, _, rfl, SqT.of (by assumption), rfl, ?_⟩) | (refine ⟨_, _, _, _, _, rfl, (by assumption : _ = some (HO.ins _ _ _)), Tx.cls (by assumption) _ (by decide +kernel), Tx.noat (by assumption) _ _ (by decide +kernel), rfl, ?_⟩) | (refine ⟨_, _, _, rfl, (by assumption : _ = some (HO.ins _ _ _)), _, _, rfl, (by assumption : ClAt _ _ _ _), ?_⟩) | (refine ⟨_, _, _, _, rfl, (by assumption : _ = some (HO.ins _ _ _)), Tx.cls (by assumption) _ (by decide +kernel), Tx.noat (by assumption) _ _ (by decide +kernel), Nat.le_of_ble_eq_true rfl, ?_⟩) | (refine ⟨_, _, rfl, SqT.of (by assumption), ?_⟩) | (refine ⟨_, _, rfl, SqL.of (by assumption), ?_⟩) | (refine ⟨_, _, rfl, ?_⟩) | (refine ⟨_, _, _, rfl, (by assumption : _ = some (HO.ins _ _ _)), ?_⟩) | (refine ⟨_, _, _, rfl, (by assumption : _ = some (HO.tup _)), ?_⟩) | (refine ⟨_, _, _, rfl, (by assumption : ClAt _ _ _ _), ?_⟩) | (refine ⟨_, _, _, _, _, rfl, (by assumption : ClAt _ _ _ _), (by assumption : _ = some (HO.tup _)), ?_⟩) | (refine ⟨.inl ⟨rfl, _, SqL.of (by assumption)⟩, ?_⟩) | (refine ⟨⟨_, SqL.of (by assumption)⟩, ?_⟩) | (refine ⟨⟨_, SqT.of (by assumption)⟩, ?_⟩) | (with_reducible refine ite_t ?kc ?kg; (case kc => simp; done)) | (with_reducible refine ite_f ?kc ?kg; (case kc => simp; done))))
local macro_rules | `(tactic| walk_at "sc") => `(tactic| exact ⟨rfl, rfl, rfl, by decide +kernel, rfl, by decide +kernel, by decide +kernel⟩)
theorem SkR.le {B C : Int} {p : Pt} (h : SkR B p) (hB : B ≤ C) : SkR C p := ⟨h.r, h.l, fun t e => by have := h.t t e; omega, h.lt, h.k, h.kt, h.p⟩
/-- a sketch being changed: floor and ceiling not yet put right -/
structure NrR (i : Nat) (rate : Int) (low top : OI) (keep plus : Int) : Prop where
  r : 0 ≤ rate ∧ rate ≤ 5
  l : ∀ f, low = some f → -2 ≤ f ∧ f ≤ 1
  t : ∀ t, top = some t → -2 ≤ t ∧ t ≤ 5 + 2 * i
  k : 0 ≤ keep ∧ keep ≤ 3
  kt : top = none → keep = 0
  p : -9 ≤ plus ∧ plus ≤ 9
theorem NrR.next {i : Nat} {rate : Int} {low top : OI} {keep plus : Int} (h : NrR i rate low top keep plus) : NrR (i + 1) rate low top keep plus := ⟨h.r, h.l, fun t e => by have := h.t t e; omega, h.k, h.kt, h.p⟩
section
variable {w : World} {K : PySem.W.Frag} {mg : Str → Option Value} {base : Heap}
def sp_law_near : Sp := fun vs H Q _ => ∃ (c b : Addr) (p : Pt), vs = [.ref c, .ref b] ∧ CupAt H c ∧ H b = some (.tup (ptV p)) ∧ SkR 5 p ∧ ∀ H' b' p', Fr c H H' → CupAt H' c → H' b' = some (.tup (ptV p')) → SkR 9 p' → Q (.ref b') H'
theorem sc_law_near : FnScope ["_law_cup_here", "_law_sketch_here", "_law_every", "_law_begin", "_law_rate", "_law_low", "_law_top", "_law_keep", "_law_plus", "_law_turn", "_law_pick"] ["_law_cup_here", "_law_sketch_here"] (defScope s_law_near) := by walk_at "sc"
theorem ok_law_near (T : Tx w K mg) : Fn PG w K mg base 3 (ga K "_law_near") sp_law_near := by
  obtain ⟨fd, F⟩ := T.fn _ m_law_near
  refine fn_mk F (F.bindsN fun _ _ _ _ _ _ us hl => match us, hl with | [_, _], _ => rfl) sc_law_near (fun vs H Q E h => by obtain ⟨c, b, p, rfl, hc, hb, sk, q⟩ := h; rfl) ?_
  intro cdv A outer s H vs Q E hr h
  refine ⟨_, PSs.nox (pss_cons (ps_if (pt_cmpR op_eq (pe_cl (ok_law_sip T) (hr.mono (by decide)) (T.g "_law_sip") (T.kp _ m_law_sip) (fun _ => pas0) (pa_cons (pv 0) (pa_cons pe_int pa_nil))) pe_int (nomark _)) (pss_one (ps_ret (pe_cl (ok_law_sketch T) (hr.mono (by decide)) (T.g "_law_sketch") (T.kp _ m_law_sketch) (fun _ => pas0) (pa_cons (pv 0) pa_nil)))) pss_nil)
    (pss_cons (ps_asg (pv 1) (pg_tup rfl (pgs_cons (pg_name (i := 2) sc_law_near.nd rfl (Or.inl rfl)) (pgs_cons (pg_name (i := 3) sc_law_near.nd rfl (Or.inl rfl)) (pgs_cons (pg_name (i := 4) sc_law_near.nd rfl (Or.inl rfl)) (pgs_cons (pg_name (i := 5) sc_law_near.nd rfl (Or.inl rfl)) (pgs_cons (pg_name (i := 6) sc_law_near.nd rfl (Or.inl rfl)) (pgs_cons (pg_name (i := 7) sc_law_near.nd rfl (Or.inl rfl)) (pgs_cons (pg_name (i := 8) sc_law_near.nd rfl (Or.inl rfl)) pgs_nil)))))))))
    (pss_cons (ps_for PassesOwn.never rfl (pi_range1 rfl (T.f "range") (pa_cons (pe_op op_add pe_int (pe_cl (ok_law_sip T) (hr.mono (by decide)) (T.g "_law_sip") (T.kp _ m_law_sip) (fun _ => pas0) (pa_cons (pv 0) (pa_cons pe_int pa_nil)))) pa_nil)) (pg_name (i := 9) sc_law_near.nd rfl (Or.inl rfl)) (pss_cons (ps_set (i := 10) sc_law_near.nd rfl (Or.inl rfl) (pe_cl (ok_law_sip T) (hr.mono (by decide)) (T.g "_law_sip") (T.kp _ m_law_sip) (fun _ => pas0) (pa_cons (pv 0) (pa_cons pe_int pa_nil))))
    (pss_cons (ps_if (pt_cmpR op_eq (pv 10) pe_int (nomark _)) (pss_one (ps_set (i := 4) sc_law_near.nd rfl (Or.inl rfl) (pe_cl (ok_law_sip T) (hr.mono (by decide)) (T.g "_law_sip") (T.kp _ m_law_sip) (fun _ => pas0) (pa_cons (pv 0) (pa_cons pe_int pa_nil))))) pss_nil)
    (pss_cons (ps_if (pt_cmpR op_eq (pv 10) pe_int (nomark _)) (pss_one (ps_set (i := 5) sc_law_near.nd rfl (Or.inl rfl) (pe_ifExp (pt_cmpR op_notN (pv 5) pe_non (nomark _)) pe_non (pe_un un_neg (pe_cl (ok_law_sip T) (hr.mono (by decide)) (T.g "_law_sip") (T.kp _ m_law_sip) (fun _ => pas0) (pa_cons (pv 0) (pa_cons pe_int pa_nil))))))) pss_nil)
    (pss_cons (ps_if (PW.pt (pw_and (pt_cmpR op_eq (pv 10) pe_int (nomark _)) (pw_and1 (pt_cmpR op_notN (pv 6) pe_non (nomark _))))) (pss_one (ps_set (i := 6) sc_law_near.nd rfl (Or.inl rfl) (pe_op op_add (pv 6) (pe_cl (ok_law_sip T) (hr.mono (by decide)) (T.g "_law_sip") (T.kp _ m_law_sip) (fun _ => pas0) (pa_cons (pv 0) (pa_cons pe_int pa_nil)))))) pss_nil)
    (pss_cons (ps_if (PW.pt (pw_and (pt_cmpR op_eq (pv 10) pe_int (nomark _)) (pw_and1 (pt_cmpR op_notN (pv 6) pe_non (nomark _))))) (pss_one (ps_set (i := 7) sc_law_near.nd rfl (Or.inl rfl) (pe_cl (ok_law_sip T) (hr.mono (by decide)) (T.g "_law_sip") (T.kp _ m_law_sip) (fun _ => pas0) (pa_cons (pv 0) (pa_cons pe_int pa_nil))))) pss_nil)
    (pss_cons (ps_if (pt_cmpR op_eq (pv 10) pe_int (nomark _)) (pss_one (ps_set (i := 8) sc_law_near.nd rfl (Or.inl rfl) (pe_op op_sub (pe_cl (ok_law_sip T) (hr.mono (by decide)) (T.g "_law_sip") (T.kp _ m_law_sip) (fun _ => pas0) (pa_cons (pv 0) (pa_cons pe_int pa_nil))) pe_int))) pss_nil)
    (pss_one (ps_if (pt_cmpR op_eq (pv 10) pe_int (nomark _)) (pss_one (ps_asg (pe_tup (pa_cons pe_non (pa_cons pe_int pa_nil))) (pg_tup rfl (pgs_cons (pg_name (i := 6) sc_law_near.nd rfl (Or.inl rfl)) (pgs_cons (pg_name (i := 7) sc_law_near.nd rfl (Or.inl rfl)) pgs_nil))))) pss_nil)))))))))
    (pss_cons (ps_if (PW.pt (pw_and (pt_cmpR op_notN (pv 5) pe_non (nomark _)) (pw_and (pt_cmpR op_notN (pv 6) pe_non (nomark _)) (pw_and1 (pt_cmpR op_gt (pv 5) (pv 6) (nomark _)))))) (pss_one (ps_set (i := 5) sc_law_near.nd rfl (Or.inl rfl) (pv 6))) pss_nil)
    (pss_one (ps_ret (pe_tup (pa_cons (pv 2) (pa_cons (pv 3) (pa_cons (pv 4) (pa_cons (pv 5) (pa_cons (pv 6) (pa_cons (pv 7) (pa_cons (pv 8) pa_nil)))))))))))))), ?_⟩
  obtain ⟨c, b, p, rfl, hc, hb, sk, q⟩ := h
  walk_at "rd"
  refine ⟨hc, by decide, by decide, fun H1 r1 f1 c1 g1 l1 => ?_⟩
  have hbc : b ≠ c := by
    obtain ⟨u, m, k, z⟩ := hc
    exact ne_of hb z (by simp)
  have hb1 := f1 _ _ hbc hb
  walk_at "rd"
  refine ite_d (fun z => ?_) (fun z => ?_)
  · walk_at "rd"
    exact ⟨c1, fun H2 b2 p2 f2 c2 hb2 sk2 => q H2 b2 p2 (f1.trans f2) c2 hb2 (sk2.le (by decide))⟩
  · walk_at "rd"
    refine ⟨c1, by decide, by decide, fun H2 r2 f2 c2 g2 l2 => ?_⟩
    have F2 := f1.trans f2
    walk_at "rd"
    refine ⟨by omega, by omega, for_it walk_range (fun i σ H3 => Fr c H H3 ∧ CupAt H3 c ∧ ∃ (rate : Int) (low top : OI) (keep plus : Int) (v9 v10 : Option V), NrR i rate low top keep plus ∧ σ = [some (.ref c), some (.ref b), some (.int p.every), some (.int p.first), some (.int rate), some (ov low), some (ov top), some (.int keep), some (.int plus), v9, v10])
      ⟨F2, c2, _, _, _, _, _, _, _, ⟨sk.r, sk.l, fun t e => by have := sk.t t e; omega, sk.k, sk.kt, sk.p⟩, rfl⟩ (fun _ _ _ _ _ => True.intro) (fun i x σ H3 H4 hi h hy => ?_) fun σ H3 h => ?_⟩
    · obtain ⟨F3, c3, rate, low, top, keep, plus, v9, v10, nr, rfl⟩ := h
      obtain ⟨e4, hx0⟩ := hy
      subst e4
      subst hx0
      have nx := nr.next
      walk_at "rd"
      refine ⟨c3, by decide, by decide, fun H5 r5 f5 c5 g5 l5 => ?_⟩
      have F5 := F3.trans f5
      have hr : r5 = 0 ∨ r5 = 1 ∨ r5 = 2 ∨ r5 = 3 ∨ r5 = 4 ∨ r5 = 5 := by omega
      clear g5 l5
      rcases hr with rfl | rfl | rfl | rfl | rfl | rfl
      · walk_at "rd"
        refine ⟨c5, by decide, by decide, fun H6 r6 f6 c6 g6 l6 => ?_⟩
        walk_at "rd"
        exact ⟨F5.trans f6, c6, r6, low, top, keep, plus, _, _, ⟨⟨g6, by omega⟩, nx.l, nx.t, nx.k, nx.kt, nx.p⟩, rfl⟩
      · cases low with
        | none =>
          walk_at "rd"
          refine ⟨c5, by decide, by decide, fun H6 r6 f6 c6 g6 l6 => ?_⟩
          walk_at "rd"
          exact ⟨F5.trans f6, c6, rate, some (-r6), top, keep, plus, _, _, ⟨nx.r, (fun f e => by cases e; omega), nx.t, nx.k, nx.kt, nx.p⟩, rfl⟩
        | some lw =>
          walk_at "rd"
          exact ⟨F5, c5, rate, none, top, keep, plus, _, _, ⟨nx.r, (fun f e => by cases e), nx.t, nx.k, nx.kt, nx.p⟩, rfl⟩
      · cases top with
        | none =>
          walk_at "rd"
          exact ⟨F5, c5, rate, low, none, keep, plus, _, _, nx, rfl⟩
        | some tp =>
          walk_at "rd"
          refine ⟨c5, by decide, by decide, fun H6 r6 f6 c6 g6 l6 => ?_⟩
          walk_at "rd"
          exact ⟨F5.trans f6, c6, rate, low, some (tp + r6), keep, plus, _, _, ⟨nx.r, nx.l, (fun t e => by have := nr.t tp rfl; cases e; omega), nx.k, (fun e => by cases e), nx.p⟩, rfl⟩
      · cases top with
        | none =>
          walk_at "rd"
          exact ⟨F5, c5, rate, low, none, keep, plus, _, _, nx, rfl⟩
        | some tp =>
          walk_at "rd"
          refine ⟨c5, by decide, by decide, fun H6 r6 f6 c6 g6 l6 => ?_⟩
          walk_at "rd"
          exact ⟨F5.trans f6, c6, rate, low, some tp, r6, plus, _, _, ⟨nx.r, nx.l, nx.t, ⟨g6, by omega⟩, (fun e => by cases e), nx.p⟩, rfl⟩
      · walk_at "rd"
        refine ⟨c5, by decide, by decide, fun H6 r6 f6 c6 g6 l6 => ?_⟩
        walk_at "rd"
        exact ⟨F5.trans f6, c6, rate, low, top, keep, r6 - 1, _, _, ⟨nx.r, nx.l, nx.t, nx.k, nx.kt, ⟨by omega, by omega⟩⟩, rfl⟩
      · walk_at "rd"
        refine ⟨by show 2 ≤ sizeLine; decide, fun p6 hp6 => ?_⟩
        generalize e6 : upd H5 p6 _ = H6
        have S6 : Same H5 H6 := e6 ▸ same_new hp6
        have u6 : H6 p6 = some (.tup [.non, .int 0]) := e6 ▸ upd_same
        walk_at "rd"
        exact ⟨F5.trans (Fr.of S6), c5.mono S6, rate, low, none, 0, plus, _, _, ⟨nx.r, nx.l, (fun t e => by cases e), ⟨Int.le_refl 0, by decide⟩, (fun _ => rfl), nx.p⟩, rfl⟩
    · obtain ⟨F3, c3, rate, low, top, keep, plus, v9, v10, nr, rfl⟩ := h
      have hn : ((1 + r2).toNat : Int) ≤ 2 := by omega
      generalize (1 + r2).toNat = n at nr hn
      have fin : ∀ (lw : OI), (∀ f, lw = some f → -2 ≤ f ∧ f ≤ 1) → (∀ f t, lw = some f → top = some t → f ≤ t) → ∀ (b' : Addr), H3 b' = none → Q (.ref b') (upd H3 b' (.tup [.int p.every, .int p.first, .int rate, ov lw, ov top, .int keep, .int plus])) := fun lw hl hlt b' hb' =>
        q _ b' ⟨p.every, p.first, rate, lw, top, keep, plus⟩ (F3.trans (Fr.of (same_new hb'))) (c3.mono (same_new hb')) upd_same ⟨nr.r, hl, (fun t e => by have := nr.t t e; omega), hlt, nr.k, nr.kt, nr.p⟩
      cases low with
      | none =>
        walk_at "rd"
        exact ⟨by show 7 ≤ sizeLine; decide, fun b' hb' => fin none (fun f e => by cases e) (fun f t e => by cases e) b' hb'⟩
      | some lw =>
        cases top with
        | none =>
          walk_at "rd"
          exact ⟨by show 7 ≤ sizeLine; decide, fun b' hb' => fin (some lw) nr.l (fun f t _ e => by cases e) b' hb'⟩
        | some tp =>
          walk_at "rd"
          refine ite_d (fun c7 => ?_) (fun c7 => ?_)
          · walk_at "rd"
            exact ⟨by show 7 ≤ sizeLine; decide, fun b' hb' => fin (some tp) (fun f e => by have h1 := nr.t tp rfl; have h2 := nr.l lw rfl; cases e; omega) (fun f t e1 e2 => by cases e1; cases e2; exact Int.le_refl _) b' hb'⟩
          · walk_at "rd"
            exact ⟨by show 7 ≤ sizeLine; decide, fun b' hb' => fin (some lw) nr.l (fun f t e1 e2 => by cases e1; cases e2; omega) b' hb'⟩
end
end K56
namespace K56
open PySem PySem.Spec PyProof.Rows L2
local macro_rules | `(tactic| walk_at "rd") => `(tactic| repeat (first | (refine ⟨_, rfl, ?_⟩) | (refine ⟨_, _, rfl, rfl, ?_⟩) | (refine ⟨rfl, ?_⟩) | (refine ⟨_, (by assumption : _ = some (HO.tup _)), ?_⟩) | (refine ⟨_, _, _, _, rfl, rfl, SqT.of (by assumption), rfl, ?_⟩) | (refine ⟨_, _, _, _, rfl, rfl, SqL.of (by assumption), rfl, ?_⟩) | (refine ⟨_, _, rfl, .inr (SqT.of (by assumption)), ?_⟩) | (refine ⟨_, _, rfl, .inl (SqL.of (by assumption)), ?_⟩) | (refine ⟨_, _, rfl, SqT.of (by assumption), rfl, ?_⟩) | (refine ⟨_, _, _, _, _, rfl, (by assumption : _ = some (HO.ins _ _ _)), Tx.cls (by assumption) _ (by decide +kernel), Tx.noat (by assumption) _ _ (by decide +kernel), rfl, ?_⟩) | (refine ⟨_, _, _, rfl, (by assumption : _ = some (HO.ins _ _ _)), _, _, rfl, (by assumption : ClAt _ _ _ _), ?_⟩) | (refine ⟨_, _, _, _, rfl, (by assumption : _ = some (HO.ins _ _ _)), Tx.cls (by assumption) _ (by decide +kernel), Tx.noat (by assumption) _ _ (by decide +kernel), Nat.le_of_ble_eq_true rfl, ?_⟩) | (refine ⟨_, _, rfl, SqT.of (by assumption), ?_⟩) | (refine ⟨_, _, rfl, SqL.of (by assumption), ?_⟩) | (refine ⟨_, _, rfl, ?_⟩) | (refine ⟨_, _, _, rfl, (by assumption : _ = some (HO.ins _ _ _)), ?_⟩) | (refine ⟨_, _, _, rfl, (by assumption : _ = some (HO.tup _)), ?_⟩) | (refine ⟨_, _, _, rfl, (by assumption : ClAt _ _ _ _), ?_⟩) | (refine ⟨_, _, _, _, _, rfl, (by assumption : ClAt _ _ _ _), (by assumption : _ = some (HO.tup _)), ?_⟩) | (refine ⟨.inl ⟨rfl, _, SqL.of (by assumption)⟩, ?_⟩) | (refine ⟨⟨_, SqL.of (by assumption)⟩, ?_⟩) | (refine ⟨⟨_, SqT.of (by assumption)⟩, ?_⟩) | (with_reducible refine ite_t ?kc ?kg; (case kc => simp; done)) | (with_reducible refine ite_f ?kc ?kg; (case kc => simp; done))))
local macro_rules | `(tactic| walk_at "sc") => `(tactic| exact ⟨rfl, rfl, rfl, by decide +kernel, rfl, by decide +kernel, by decide +kernel⟩)
theorem SkR.one {B : Int} {p : Pt} (h : SkR B p) (hB : B ≤ 20) : Ok { p with every := 1, first := 1 } := by
  obtain ⟨r, l, t, lt, k, kt, q⟩ := h
  exact ⟨.inl rfl, rfl, r.1, r.2, fun f e => by have := l f e; omega, fun f e => by have := t f e; omega, lt, k.1, k.2, kt, q.1, q.2⟩
theorem SkR.two {B : Int} {p : Pt} (h : SkR B p) (hB : B ≤ 20) : Ok { p with every := 2, first := 2 } := by
  obtain ⟨r, l, t, lt, k, kt, q⟩ := h
  exact ⟨.inr rfl, rfl, r.1, r.2, fun f e => by have := l f e; omega, fun f e => by have := t f e; omega, lt, k.1, k.2, kt, q.1, q.2⟩
theorem cut_two (p : Pt) : cutV (ptV p) (some 2) none = [.int p.rate, ov p.low, ov p.top, .int p.keep, .int p.plus] := by
  rw [show (2 : Int) = ((2 : Nat) : Int) from rfl, cut_from _ (show 2 ≤ (ptV p).length from (by decide : 2 ≤ 7))]
  rfl
/-- the shelf: the clauses, the names, the band -/
structure ShAt (K : PySem.W.Frag) (G : Hp) (sh a b bd : Addr) (cs : List (Addr × Pt)) (lo hi : Int) : Prop where
  sh : G sh = some (.lst [.ref a, .ref b, .ref bd])
  a : G a = some (.lst (cs.map fun x => .ref x.1))
  b : G b = some (.lst [.str "one", .str "onto"])
  bd : BdAt G bd lo hi
  all : ∀ x ∈ cs, ClAt K G x.1 x.2 ∧ Ok x.2
  four : cs.length = 4
  hz : -3 ≤ lo ∧ lo ≤ hi ∧ hi ≤ 3 ∧ hi - lo ≤ 2
theorem ShAt.mono {K : PySem.W.Frag} {G G' : Hp} (e : Same G G') {sh a b bd : Addr} {cs : List (Addr × Pt)} {lo hi : Int} (h : ShAt K G sh a b bd cs lo hi) : ShAt K G' sh a b bd cs lo hi :=
  ⟨e _ _ h.sh, e _ _ h.a, e _ _ h.b, e _ _ h.bd, fun x hx => ⟨(h.all x hx).1.mono e, (h.all x hx).2⟩, h.four, h.hz⟩
section
variable {w : World} {K : PySem.W.Frag} {mg : Str → Option Value} {base : Heap}
def sp_law_shelf (K : PySem.W.Frag) : Sp := fun vs H Q _ => ∃ (c : Addr), vs = [.ref c] ∧ CupAt H c ∧ ∀ H' sh a b bd cs lo hi, Fr c H H' → CupAt H' c → ShAt K H' sh a b bd cs lo hi → Q (.ref sh) H'
theorem sc_law_shelf : FnScope ["_law_cup_here", "_law_sketch_here", "_law_near_here", "_law_each"] ["_law_cup_here"] (defScope s_law_shelf) := by walk_at "sc"
theorem ok_law_shelf (T : Tx w K mg) : Fn PG w K mg base 7 (ga K "_law_shelf") (sp_law_shelf K) := by
  obtain ⟨fd, F⟩ := T.fn _ m_law_shelf
  refine fn_mk F (F.bindsN fun _ _ _ _ _ _ us hl => match us, hl with | [_], _ => rfl) sc_law_shelf (fun vs H Q E h => by obtain ⟨c, rfl, hc, q⟩ := h; rfl) ?_
  intro cdv A outer s H vs Q E hr h
  refine ⟨_, PSs.nox (pss_cons (ps_set (i := 1) sc_law_shelf.nd rfl (Or.inl rfl) (pe_op op_catA (pe_tup (pa_cons pe_int (pa_cons pe_int pa_nil))) (pe_slice sl_tupA (pe_cl (ok_law_sketch T) (hr.mono (by decide)) (T.g "_law_sketch") (T.kp _ m_law_sketch) (fun _ => pas0) (pa_cons (pv 0) pa_nil)) (po_some pe_int) po_none)))
    (pss_cons (ps_set (i := 2) sc_law_shelf.nd rfl (Or.inl rfl) (pe_lst (pa_cons (pv 1) (pa_cons (pe_op op_catA (pe_tup (pa_cons pe_int (pa_cons pe_int pa_nil))) (pe_slice sl_tupA (pe_cl (ok_law_near T) (hr.mono (by decide)) (T.g "_law_near") (T.kp _ m_law_near) (fun _ => pas0) (pa_cons (pv 0) (pa_cons (pv 1) pa_nil))) (po_some pe_int) po_none)) (pa_cons (pe_op op_catA (pe_tup (pa_cons pe_int (pa_cons pe_int pa_nil))) (pe_slice sl_tupA (pe_cl (ok_law_near T) (hr.mono (by decide)) (T.g "_law_near") (T.kp _ m_law_near) (fun _ => pas0) (pa_cons (pv 0) (pa_cons (pv 1) pa_nil))) (po_some pe_int) po_none)) (pa_cons (pe_op op_catA (pe_tup (pa_cons pe_int (pa_cons pe_int pa_nil))) (pe_slice sl_tupA (pv 1) (po_some pe_int) po_none)) pa_nil))))))
    (pss_one (ps_ret (pe_lst (pa_cons (pe_lc (own := [("_law_each", 3)]) (g := gName 3) rfl sc_law_shelf.nd (pi_list (pv 2)) (blkOk_by (N := ["_law_cup_here", "_law_sketch_here", "_law_near_here", "_law_each"]) (sc := defScope s_law_shelf) (by decide +kernel)) (fun _ _ _ _ _ => (pg_name (i := 3) sc_law_shelf.nd rfl (Or.inl rfl))) (fun _ _ _ _ _ => pts_nil) (fun _ _ _ _ _ => (pe_cl (ok_law_clause T) (hr.mono (by decide)) (T.g "_law_clause") (T.kp _ m_law_clause) (fun _ => pas0) (pa_cons (pv 3) pa_nil)))) (pa_cons (pe_lst (pa_cons pe_str (pa_cons pe_str pa_nil))) (pa_cons (pe_cl (ok_law_band T) (hr.mono (by decide)) (T.g "_law_band") (T.kp _ m_law_band) (fun _ => pas0) (pa_cons (pv 0) pa_nil)) pa_nil)))))))), ?_⟩
  obtain ⟨c, rfl, hc, q⟩ := h
  walk_at "rd"
  refine ⟨by show 2 ≤ sizeLine; decide, fun p1 hp1 => ?_⟩
  generalize e1 : upd H p1 _ = H1
  have S1 : Same H H1 := e1 ▸ same_new hp1
  have u1 : H1 p1 = some (.tup [.int 1, .int 1]) := e1 ▸ upd_same
  have c1 := hc.mono S1
  walk_at "rd"
  refine ⟨c1, fun H2 b2 P2 f2 c2 u2 sk2 => ?_⟩
  have n1 : p1 ≠ c := hc.ne hp1
  have v1 := f2 _ _ n1 u1
  walk_at "rd"
  refine ⟨fun z => absurd z.1 (show ¬ HT.sIx 7 0 (some 2) = 0 by decide), fun _ p3 hp3 => ?_⟩
  rw [cut_two]
  generalize e3 : upd H2 p3 _ = H3
  have S3 : Same H2 H3 := e3 ▸ same_new hp3
  have u3 : H3 p3 = some (.tup [.int P2.rate, ov P2.low, ov P2.top, .int P2.keep, .int P2.plus]) := e3 ▸ upd_same
  have c3 := c2.mono S3
  refine ⟨p1, p3, _, _, rfl, rfl, SqT.of (S3 _ _ v1), SqT.of u3, by show 2 + 5 ≤ sizeLine; decide, (fun e => by cases e), (fun _ e => by cases e), fun _ _ x1 hx1 => ?_⟩
  generalize e4 : upd H3 x1 _ = H4
  have S4 : Same H3 H4 := e4 ▸ same_new hx1
  have w1 : H4 x1 = some (.tup (ptV { P2 with every := 1, first := 1 })) := e4 ▸ upd_same
  have c4 := c3.mono S4
  have F4 : Fr c H H4 := ((Fr.of S1).trans f2).trans (Fr.of (S3.trans S4))
  have nx1 : x1 ≠ c := c3.ne hx1
  have ok1 := sk2.one (by decide)
  have skn : SkR 5 { P2 with every := 1, first := 1 } := ⟨sk2.r, sk2.l, sk2.t, sk2.lt, sk2.k, sk2.kt, sk2.p⟩
  have w1 : H4 x1 = some (.tup [.int 1, .int 1, .int P2.rate, ov P2.low, ov P2.top, .int P2.keep, .int P2.plus]) := w1
  clear e1 e3 e4
  walk_at "rd"
  refine ⟨by show 2 ≤ sizeLine; decide, fun p41 hp41 => ?_⟩
  generalize e1 : upd H4 p41 _ = H41
  have S41 : Same H4 H41 := e1 ▸ same_new hp41
  have u41 : H41 p41 = some (.tup [.int 1, .int 1]) := e1 ▸ upd_same
  have c41 := c4.mono S41
  have w1 := S41 _ _ w1
  walk_at "rd"
  refine ⟨c, x1, { P2 with every := 1, first := 1 }, rfl, c41, w1, skn, fun H42 b42 P42 f42 c42 u42 sk42 => ?_⟩
  have v41 := f42 _ _ (c4.ne hp41) u41
  have w1 := f42 _ _ nx1 w1
  walk_at "rd"
  refine ⟨fun z => absurd z.1 (show ¬ HT.sIx 7 0 (some 2) = 0 by decide), fun _ p43 hp43 => ?_⟩
  rw [cut_two]
  generalize e3 : upd H42 p43 _ = H43
  have S43 : Same H42 H43 := e3 ▸ same_new hp43
  have u43 : H43 p43 = some (.tup [.int P42.rate, ov P42.low, ov P42.top, .int P42.keep, .int P42.plus]) := e3 ▸ upd_same
  have c43 := c42.mono S43
  refine ⟨p41, p43, _, _, rfl, rfl, SqT.of (S43 _ _ v41), SqT.of u43, by show 2 + 5 ≤ sizeLine; decide, (fun e => by cases e), (fun _ e => by cases e), fun _ _ x2 hx2 => ?_⟩
  generalize e4 : upd H43 x2 _ = H5
  have S5 : Same H43 H5 := e4 ▸ same_new hx2
  have w2 : H5 x2 = some (.tup (ptV { P42 with every := 1, first := 1 })) := e4 ▸ upd_same
  have c5 := c43.mono S5
  have F45 : Fr c H4 H5 := ((Fr.of S41).trans f42).trans (Fr.of (S43.trans S5))
  have nx2 : x2 ≠ c := c43.ne hx2
  have ok2 := sk42.one (by decide)
  have w1 := S5 _ _ (S43 _ _ w1)
  clear e1 e3 e4
  walk_at "rd"
  refine ⟨by show 2 ≤ sizeLine; decide, fun p51 hp51 => ?_⟩
  generalize e1 : upd H5 p51 _ = H51
  have S51 : Same H5 H51 := e1 ▸ same_new hp51
  have u51 : H51 p51 = some (.tup [.int 1, .int 1]) := e1 ▸ upd_same
  have c51 := c5.mono S51
  have w1 := S51 _ _ w1
  walk_at "rd"
  refine ⟨c, x1, { P2 with every := 1, first := 1 }, rfl, c51, w1, skn, fun H52 b52 P52 f52 c52 u52 sk52 => ?_⟩
  have v51 := f52 _ _ (c5.ne hp51) u51
  have w1 := f52 _ _ nx1 w1
  walk_at "rd"
  refine ⟨fun z => absurd z.1 (show ¬ HT.sIx 7 0 (some 2) = 0 by decide), fun _ p53 hp53 => ?_⟩
  rw [cut_two]
  generalize e3 : upd H52 p53 _ = H53
  have S53 : Same H52 H53 := e3 ▸ same_new hp53
  have u53 : H53 p53 = some (.tup [.int P52.rate, ov P52.low, ov P52.top, .int P52.keep, .int P52.plus]) := e3 ▸ upd_same
  have c53 := c52.mono S53
  refine ⟨p51, p53, _, _, rfl, rfl, SqT.of (S53 _ _ v51), SqT.of u53, by show 2 + 5 ≤ sizeLine; decide, (fun e => by cases e), (fun _ e => by cases e), fun _ _ x3 hx3 => ?_⟩
  generalize e4 : upd H53 x3 _ = H6
  have S6 : Same H53 H6 := e4 ▸ same_new hx3
  have w3 : H6 x3 = some (.tup (ptV { P52 with every := 1, first := 1 })) := e4 ▸ upd_same
  have c6 := c53.mono S6
  have F56 : Fr c H5 H6 := ((Fr.of S51).trans f52).trans (Fr.of (S53.trans S6))
  have nx3 : x3 ≠ c := c53.ne hx3
  have ok3 := sk52.one (by decide)
  have w1 := S6 _ _ (S53 _ _ w1)
  clear e1 e3 e4
  walk_at "rd"
  refine ⟨by show 2 ≤ sizeLine; decide, fun p61 hp61 => ?_⟩
  generalize e1 : upd H6 p61 _ = H61
  have S61 : Same H6 H61 := e1 ▸ same_new hp61
  have u61 : H61 p61 = some (.tup [.int 2, .int 2]) := e1 ▸ upd_same
  have w1 := S61 _ _ w1
  walk_at "rd"
  refine ⟨fun z => absurd z.1 (show ¬ HT.sIx 7 0 (some 2) = 0 by decide), fun _ p63 hp63 => ?_⟩
  rw [show cutV [V.int 1, V.int 1, V.int P2.rate, ov P2.low, ov P2.top, V.int P2.keep, V.int P2.plus] (some 2) none = [.int P2.rate, ov P2.low, ov P2.top, .int P2.keep, .int P2.plus] from cut_two { P2 with every := 1, first := 1 }]
  generalize e3 : upd H61 p63 _ = H63
  have S63 : Same H61 H63 := e3 ▸ same_new hp63
  have u63 : H63 p63 = some (.tup [.int P2.rate, ov P2.low, ov P2.top, .int P2.keep, .int P2.plus]) := e3 ▸ upd_same
  refine ⟨p61, p63, _, _, rfl, rfl, SqT.of (S63 _ _ u61), SqT.of u63, by show 2 + 5 ≤ sizeLine; decide, (fun e => by cases e), (fun _ e => by cases e), fun _ _ x4 hx4 => ?_⟩
  generalize e4 : upd H63 x4 _ = H7
  have S637 : Same H63 H7 := e4 ▸ same_new hx4
  have w4 : H7 x4 = some (.tup (ptV { P2 with every := 2, first := 2 })) := e4 ▸ upd_same
  have S7 : Same H6 H7 := (S61.trans S63).trans S637
  have ok4 := sk2.two (by decide)
  have w1 := S637 _ _ (S63 _ _ w1)
  have w2 := S7 _ _ (F56 _ _ nx2 w2)
  have w3 := S7 _ _ w3
  have c7 := c6.mono S7
  have F7 : Fr c H H7 := ((F4.trans F45).trans F56).trans (Fr.of S7)
  clear e1 e3 e4
  refine ⟨by show 4 ≤ sizeLine; decide, fun y hy => ?_⟩
  generalize e8 : upd H7 y _ = H8
  have S8 : Same H7 H8 := e8 ▸ same_new hy
  have u8 : H8 y = some (.lst ([x1, x2, x3, x4].map V.ref)) := e8 ▸ upd_same
  have c8 := c7.mono S8
  have F8 := F7.trans (Fr.of S8)
  have hall : ∀ (i : Nat) (v : V), ([x1, x2, x3, x4].map V.ref)[i]? = some v → ∃ (x : Addr) (p : Pt), v = .ref x ∧ H8 x = some (.tup (ptV p)) ∧ Ok p := fun i v hv => by
    match i with
    | 0 => exact ⟨x1, { P2 with every := 1, first := 1 }, (Option.some.inj hv).symm, S8 _ _ w1, ok1⟩
    | 1 => exact ⟨x2, _, (Option.some.inj hv).symm, S8 _ _ w2, ok2⟩
    | 2 => exact ⟨x3, _, (Option.some.inj hv).symm, S8 _ _ w3, ok3⟩
    | 3 => exact ⟨x4, _, (Option.some.inj hv).symm, S8 _ _ w4, ok4⟩
    | i + 4 => cases hv
  walk_at "rd"
  refine fun D hD => lc_it (walk_list (xs := [x1, x2, x3, x4].map V.ref)) (fun i H9 => Same H8 H9 ∧ ∃ cs : List (Addr × Pt), cs.length = i ∧ H9 D = some (.lst (cs.map fun x => .ref x.1)) ∧ ∀ x ∈ cs, ClAt K H9 x.1 x.2 ∧ Ok x.2) ⟨same_new hD, [], rfl, upd_same, fun _ h => absurd h List.not_mem_nil⟩ (fun _ _ _ h => SqL.of (h.1 _ _ u8)) (fun i v H9 H10 hi h hy => ?_) fun H9 h => ?_
  · obtain ⟨S9, cs, hl, f9, hcs⟩ := h
    obtain ⟨rfl, hv⟩ := hy
    obtain ⟨x, p, rfl, hx, okp⟩ := hall i v hv
    have hi4 : i < 4 := hi
    walk_at "rd"
    refine ⟨x, p, rfl, S9 _ _ hx, okp, fun H11 a S11 ha => ?_⟩
    refine ⟨_, S11 _ _ f9, by rw [List.length_map, hl, sizeLine_eq]; omega, fun b u e2 => ?_, cs ++ [(a, p)], by rw [List.length_append, hl]; rfl, ?_, fun z hz => ?_⟩
    · rw [upd_ne (ne_of_none e2 hD)]
      exact (S9.trans S11) _ _ e2
    · rw [upd_same, List.map_append]
      rfl
    · have S12 : Same H11 (upd H11 D (.lst (cs.map (fun x => V.ref x.1) ++ [.ref a]))) ∨ True := .inr trivial
      have up : ∀ {b : Addr} {o : HO}, H11 b = some o → (∀ l, o ≠ .lst l) → upd H11 D (.lst (cs.map (fun x => V.ref x.1) ++ [.ref a])) b = some o := fun {b o} e n => by
        rw [upd_ne (fun z => by rw [z, S11 _ _ f9] at e; exact n _ (Option.some.inj e).symm)]
        exact e
      have upc : ∀ {b : Addr} {q : Pt}, ClAt K H11 b q → ClAt K (upd H11 D (.lst (cs.map (fun x => V.ref x.1) ++ [.ref a]))) b q := fun {b q} ⟨dx, t, k1, k2⟩ => ⟨dx, t, up k1 (fun _ z => by cases z), up k2 (fun _ z => by cases z)⟩
      rcases List.mem_append.mp hz with y | y
      · exact ⟨upc ((hcs z y).1.mono S11), (hcs z y).2⟩
      · rw [List.mem_singleton] at y
        rw [y]
        exact ⟨upc ha, okp⟩
  · obtain ⟨S9, cs, hl, f9, hcs⟩ := h
    have c9 := c8.mono S9
    have F9 := F8.trans (Fr.of S9)
    walk_at "rd"
    refine ⟨by show 2 ≤ sizeLine; decide, fun p10 hp10 => ?_⟩
    generalize e10 : upd H9 p10 _ = H10
    have S10 : Same H9 H10 := e10 ▸ same_new hp10
    have u10 : H10 p10 = some (.lst [.str "one", .str "onto"]) := e10 ▸ upd_same
    have c10 := c9.mono S10
    walk_at "rd"
    refine ⟨c10, fun H11 bd lo hi f11 c11 hbd hz => ?_⟩
    refine ⟨by show 3 ≤ sizeLine; decide, fun p12 hp12 => ?_⟩
    generalize e12 : upd H11 p12 _ = H12
    have S12 : Same H11 H12 := e12 ▸ same_new hp12
    have u12 : H12 p12 = some (.lst [.ref D, .ref p10, .ref bd]) := e12 ▸ upd_same
    have hDc : D ≠ c := c8.ne hD
    have cup : ∀ {b : Addr} {o : HO}, H10 b = some o → (∀ l, o ≠ .lst l) → H12 b = some o := fun {b o} e n => S12 _ _ (f11 _ _ (fun z => by
      obtain ⟨u, m, k, hk⟩ := c10
      rw [z, hk] at e
      exact n _ (Option.some.inj e).symm) e)
    refine q H12 p12 D p10 bd cs lo hi (((F9.trans (Fr.of S10)).trans f11).trans (Fr.of S12)) (c11.mono S12) ⟨u12, S12 _ _ (f11 _ _ hDc (S10 _ _ f9)), S12 _ _ (f11 _ _ (c9.ne hp10) u10), S12 _ _ hbd, fun x hx => ?_, hl, hz⟩
    obtain ⟨⟨dx, t, k1, k2⟩, k3⟩ := hcs x hx
    exact ⟨⟨dx, t, cup (S10 _ _ k1) (fun _ z => by cases z), cup (S10 _ _ k2) (fun _ z => by cases z)⟩, k3⟩
end
end K56
namespace K56
open PySem PySem.Spec PyProof.Rows L2
local macro_rules | `(tactic| walk_at "rd") => `(tactic| repeat (first | (refine ⟨_, rfl, ?_⟩) | (refine ⟨_, _, rfl, rfl, ?_⟩) | (refine ⟨rfl, ?_⟩) | (refine ⟨_, (by assumption : _ = some (HO.tup _)), ?_⟩) | (refine ⟨_, _, _, _, rfl, rfl, SqT.of (by assumption), rfl, ?_⟩) | (refine ⟨_, _, _, _, rfl, rfl, SqL.of (by assumption), rfl, ?_⟩) | (refine ⟨_, _, rfl, .inr (SqT.of (by assumption)), ?_⟩) | (refine ⟨_, _, rfl, .inl (SqL.of (by assumption)), ?_⟩) | (refine ⟨_, _, rfl, SqT.of (by assumption), rfl, ?_⟩) | (refine ⟨_, _, _, _, _, rfl, (by assumption : _ = some (HO.ins _ _ _)), Tx.cls (by assumption) _ (by decide +kernel), Tx.noat (by assumption) _ _ (by decide +kernel), rfl, ?_⟩) | (refine ⟨_, _, _, rfl, (by assumption : _ = some (HO.ins _ _ _)), _, _, rfl, (by assumption : ClAt _ _ _ _), ?_⟩) | (refine ⟨_, _, _, _, rfl, (by assumption : _ = some (HO.ins _ _ _)), Tx.cls (by assumption) _ (by decide +kernel), Tx.noat (by assumption) _ _ (by decide +kernel), Nat.le_of_ble_eq_true rfl, ?_⟩) | (refine ⟨_, _, rfl, SqT.of (by assumption), ?_⟩) | (refine ⟨_, _, rfl, SqL.of (by assumption), ?_⟩) | (refine ⟨_, _, rfl, ?_⟩) | (refine ⟨_, _, _, rfl, (by assumption : _ = some (HO.ins _ _ _)), ?_⟩) | (refine ⟨_, _, _, rfl, (by assumption : _ = some (HO.tup _)), ?_⟩) | (refine ⟨_, _, _, rfl, (by assumption : ClAt _ _ _ _), ?_⟩) | (refine ⟨_, _, _, _, _, rfl, (by assumption : ClAt _ _ _ _), (by assumption : _ = some (HO.tup _)), ?_⟩) | (refine ⟨.inl ⟨rfl, _, SqL.of (by assumption)⟩, ?_⟩) | (refine ⟨⟨_, SqL.of (by assumption)⟩, ?_⟩) | (refine ⟨⟨_, SqT.of (by assumption)⟩, ?_⟩) | (with_reducible refine ite_t ?kc ?kg; (case kc => simp; done)) | (with_reducible refine ite_f ?kc ?kg; (case kc => simp; done))))
local macro_rules | `(tactic| walk_at "sc") => `(tactic| exact ⟨rfl, rfl, rfl, by decide +kernel, rfl, by decide +kernel, by decide +kernel⟩)
theorem ShAt.fr {K : PySem.W.Frag} {H H' : Hp} {c : Addr} (f : Fr c H H') (hc : CupAt H c) {sh a b bd : Addr} {cs : List (Addr × Pt)} {lo hi : Int} (h : ShAt K H sh a b bd cs lo hi) : ShAt K H' sh a b bd cs lo hi := by
  obtain ⟨u, m, k, hk⟩ := hc
  have cup : ∀ {x : Addr} {o : HO}, H x = some o → o ≠ .lst [.int u, .int m, .int k] → H' x = some o := fun {x o} e n => f _ _ (fun z => by
    rw [z, hk] at e
    exact n (Option.some.inj e).symm) e
  obtain ⟨h1, h2, h3, h4, h5, h6, h7⟩ := h
  refine ⟨cup h1 (fun z => by cases z), cup h2 (fun z => ?_), cup h3 (fun z => by cases z), cup h4 (fun z => by cases z), fun x hx => ?_, h6, h7⟩
  · have e := congrArg List.length (HO.lst.inj z)
    rw [List.length_map, h6] at e
    cases e
  · obtain ⟨⟨dx, t, k1, k2⟩, k3⟩ := h5 x hx
    exact ⟨⟨dx, t, cup k1 (fun z => by cases z), cup k2 (fun z => by cases z)⟩, k3⟩
theorem at_nm {r : Int} (h0 : 0 ≤ r) (h1 : r < 2) : ∃ n : Nm, atI [V.str "one", V.str "onto"] r = some (.str (nmS n)) := by
  have : r = 0 ∨ r = 1 := by omega
  rcases this with rfl | rfl
  · exact ⟨false, rfl⟩
  · exact ⟨true, rfl⟩
section
variable {w : World} {K : PySem.W.Frag} {mg : Str → Option Value} {base : Heap}
def sp_law_drawn_claim (K : PySem.W.Frag) : Sp := fun vs H Q _ => ∃ (c sh a b bd : Addr) (cs : List (Addr × Pt)) (lo hi : Int), vs = [.ref c, .ref sh] ∧ CupAt H c ∧ ShAt K H sh a b bd cs lo hi ∧ ∀ H' p cm, Fr c H H' → CupAt H' c → CmAt H' p cm → cm.ok → Q (.ref p) H'
theorem sc_law_drawn_claim : FnScope ["_law_cup_here", "_law_shelf_here", "_law_name", "_law_mate", "_law_word", "_law_many"] ["_law_cup_here", "_law_shelf_here"] (defScope s_law_drawn_claim) := by walk_at "sc"
theorem ok_law_drawn_claim (T : Tx w K mg) : Fn PG w K mg base 2 (ga K "_law_drawn_claim") (sp_law_drawn_claim K) := by
  obtain ⟨fd, F⟩ := T.fn _ m_law_drawn_claim
  refine fn_mk F (F.bindsN fun _ _ _ _ _ _ us hl => match us, hl with | [_, _], _ => rfl) sc_law_drawn_claim (fun vs H Q E h => by obtain ⟨c, sh, a, b, bd, cs, lo, hi, rfl, hc, hs, q⟩ := h; rfl) ?_
  intro cdv A outer s H vs Q E hr h
  refine ⟨_, PSs.nox (pss_cons (ps_par (i := 2) (j := 3) rfl sc_law_drawn_claim.nd rfl rfl (by decide) rfl rfl (pa_cons (pe_ix ix_list (pe_ix ix_list (pv 1) pe_int (fun _ _ => rfl)) (pe_cl (ok_law_sip T) (hr.mono (by decide)) (T.g "_law_sip") (T.kp _ m_law_sip) (fun _ => pas0) (pa_cons (pv 0) (pa_cons pe_int pa_nil))) (fun _ _ => rfl)) (pa_cons (pe_ix ix_list (pe_ix ix_list (pv 1) pe_int (fun _ _ => rfl)) (pe_cl (ok_law_sip T) (hr.mono (by decide)) (T.g "_law_sip") (T.kp _ m_law_sip) (fun _ => pas0) (pa_cons (pv 0) (pa_cons pe_int pa_nil))) (fun _ _ => rfl)) pa_nil)) rfl)
    (pss_cons (ps_par (i := 4) (j := 5) rfl sc_law_drawn_claim.nd rfl rfl (by decide) rfl rfl (pa_cons (pe_ix ix_list (pe_lst (pa_cons pe_str (pa_cons pe_str (pa_cons pe_str pa_nil)))) (pe_cl (ok_law_sip T) (hr.mono (by decide)) (T.g "_law_sip") (T.kp _ m_law_sip) (fun _ => pas0) (pa_cons (pv 0) (pa_cons pe_int pa_nil))) (fun _ _ => rfl)) (pa_cons (pe_ix ix_list (pe_lst (pa_cons pe_int (pa_cons pe_int (pa_cons pe_int (pa_cons pe_int (pa_cons (pe_op op_pow pe_int pe_int) pa_nil)))))) (pe_cl (ok_law_sip T) (hr.mono (by decide)) (T.g "_law_sip") (T.kp _ m_law_sip) (fun _ => pas0) (pa_cons (pv 0) (pa_cons pe_int pa_nil))) (fun _ _ => rfl)) pa_nil)) rfl)
    (pss_cons (ps_if (pt_cmpR op_eq (pv 4) pe_str (nomark _)) (pss_one (ps_ret (pe_tup (pa_cons (pv 4) (pa_cons (pv 2) (pa_cons (pv 3) pa_nil)))))) pss_nil)
    (pss_one (ps_ret (pe_ifExp (pt_cmpR op_eq (pv 4) pe_str (nomark _)) (pe_tup (pa_cons (pv 4) (pa_cons (pv 2) (pa_cons (pv 5) pa_nil)))) (pe_tup (pa_cons (pv 4) (pa_cons (pv 2) (pa_cons (pv 3) (pa_cons (pv 5) pa_nil))))))))))), ?_⟩
  obtain ⟨c, sh, a, b, bd, cs, lo, hi, rfl, hc, hs, q⟩ := h
  have hsh := hs.sh
  walk_at "rd"
  refine ⟨hc, by decide, by decide, fun H1 r1 f1 c1 g1 l1 => ?_⟩
  have s1 := hs.fr f1 hc
  obtain ⟨n, hn⟩ := at_nm g1 l1
  refine ⟨_, _, _, _, rfl, rfl, SqL.of s1.b, hn, ?_⟩
  have hsh1 := s1.sh
  walk_at "rd"
  refine ⟨c1, by decide, by decide, fun H2 r2 f2 c2 g2 l2 => ?_⟩
  have s2 := s1.fr f2 c1
  obtain ⟨m, hm⟩ := at_nm g2 l2
  refine ⟨_, _, _, _, rfl, rfl, SqL.of s2.b, hm, ?_⟩
  have F2 := f1.trans f2
  clear hn hm s1 hsh1 hsh hs
  walk_at "rd"
  refine ⟨by show 3 ≤ sizeLine; decide, fun p3 hp3 => ?_⟩
  generalize e3 : upd H2 p3 _ = H3
  have S3 : Same H2 H3 := e3 ▸ same_new hp3
  have u3 : H3 p3 = some (.lst [.str "never above", .str "alike", .str "never below"]) := e3 ▸ upd_same
  have c3 := c2.mono S3
  walk_at "rd"
  refine ⟨c3, by decide, by decide, fun H4 r4 f4 c4 g4 l4 => ?_⟩
  have u4 := f4 _ _ (c2.ne hp3) u3
  have F4 := (F2.trans (Fr.of S3)).trans f4
  have hw : ∃ wd : Str, atI [V.str "never above", V.str "alike", V.str "never below"] r4 = some (.str wd) ∧ (wd = "never above" ∨ wd = "alike" ∨ wd = "never below") := by
    have : r4 = 0 ∨ r4 = 1 ∨ r4 = 2 := by omega
    rcases this with rfl | rfl | rfl
    · exact ⟨_, rfl, .inl rfl⟩
    · exact ⟨_, rfl, .inr (.inl rfl)⟩
    · exact ⟨_, rfl, .inr (.inr rfl)⟩
  obtain ⟨wd, hx, hwd⟩ := hw
  refine ⟨_, _, _, _, rfl, rfl, SqL.of u4, hx, ?_⟩
  clear hx u3 u4
  walk_at "rd"
  refine ⟨⟨by decide, by decide, by decide⟩, ?_⟩
  walk_at "rd"
  refine ⟨by show 5 ≤ sizeLine; decide, fun p5 hp5 => ?_⟩
  generalize e5 : upd H4 p5 _ = H5
  have S5 : Same H4 H5 := e5 ▸ same_new hp5
  have u5 : H5 p5 = some (.lst ([0, 0, 1, 3, 10 ^ 30].map V.int)) := e5 ▸ upd_same
  have c5 := c4.mono S5
  walk_at "rd"
  refine ⟨c5, by decide, by decide, fun H6 r6 f6 c6 g6 l6 => ?_⟩
  have u6 := f6 _ _ (c4.ne hp5) u5
  have F6 := (F4.trans (Fr.of S5)).trans f6
  obtain ⟨mn, hmn, a6⟩ := at_int (l := [0, 0, 1, 3, 10 ^ 30]) g6 l6
  have hmn : 0 ≤ mn ∧ mn ≤ 10 ^ 30 := by simp only [List.mem_cons, List.not_mem_nil, or_false] at hmn; omega
  refine ⟨_, _, _, _, rfl, rfl, SqL.of u6, a6, ?_⟩
  clear a6 u5 u6
  rcases hwd with rfl | rfl | rfl
  · walk_at "rd"
    exact ⟨by show 4 ≤ sizeLine; decide, fun p hp => q _ p (.above n m mn) (F6.trans (Fr.of (same_new hp))) (c6.mono (same_new hp)) upd_same hmn⟩
  · walk_at "rd"
    exact ⟨by show 3 ≤ sizeLine; decide, fun p hp => q _ p (.alike n m) (F6.trans (Fr.of (same_new hp))) (c6.mono (same_new hp)) upd_same trivial⟩
  · walk_at "rd"
    exact ⟨by show 3 ≤ sizeLine; decide, fun p hp => q _ p (.below n mn) (F6.trans (Fr.of (same_new hp))) (c6.mono (same_new hp)) upd_same hmn⟩
def sp_law_drawn_deed (K : PySem.W.Frag) : Sp := fun vs H Q _ => ∃ (c sh a b bd L d l h b2 : Addr) (cs : List (Addr × Pt)) (lo hi : Int) (st : Sta), vs = [.ref c, .ref sh, .ref L] ∧ CupAt H c ∧ ShAt K H sh a b bd cs lo hi ∧ H L = some (.lst [.ref d, .ref l, .ref h, .ref b2]) ∧ H l = some (.lst (csR st.cs)) ∧ l ≠ c ∧ st.cs.length ≤ 5 ∧
  ∀ H' p dd, Fr c H H' → CupAt H' c → DdAt K H' p dd → dd.ok → dd.fits st → Q (.ref p) H'
theorem sc_law_drawn_deed : FnScope ["_law_cup_here", "_law_shelf_here", "_law_state", "_law_pick", "_law_name"] ["_law_cup_here", "_law_shelf_here", "_law_state"] (defScope s_law_drawn_deed) := by walk_at "sc"
theorem ok_law_drawn_deed (T : Tx w K mg) : Fn PG w K mg base 3 (ga K "_law_drawn_deed") (sp_law_drawn_deed K) := by
  obtain ⟨fd, F⟩ := T.fn _ m_law_drawn_deed
  refine fn_mk F (F.bindsN fun _ _ _ _ _ _ us hl => match us, hl with | [_, _, _], _ => rfl) sc_law_drawn_deed (fun vs H Q E h => by obtain ⟨c, sh, a, b, bd, L, d, l, h, b2, cs, lo, hi, st, rfl, hc, hs, hL, hl, hlc, hcl, q⟩ := h; rfl) ?_
  intro cdv A outer s H vs Q E hr h
  refine ⟨_, PSs.nox (pss_cons (ps_par (i := 3) (j := 4) rfl sc_law_drawn_deed.nd rfl rfl (by decide) rfl rfl (pa_cons (pe_cl (ok_law_sip T) (hr.mono (by decide)) (T.g "_law_sip") (T.kp _ m_law_sip) (fun _ => pas0) (pa_cons (pv 0) (pa_cons pe_int pa_nil))) (pa_cons (pe_ix ix_list (pe_ix ix_list (pv 1) pe_int (fun _ _ => rfl)) (pe_cl (ok_law_sip T) (hr.mono (by decide)) (T.g "_law_sip") (T.kp _ m_law_sip) (fun _ => pas0) (pa_cons (pv 0) (pa_cons pe_int pa_nil))) (fun _ _ => rfl)) pa_nil)) rfl)
    (pss_cons (ps_if (pt_cmpR op_lt (pv 3) pe_int (nomark _)) (pss_one (ps_ret (pe_tup (pa_cons pe_str (pa_cons (pv 4) (pa_cons (pe_ix ix_list (pe_ix ix_list (pv 1) pe_int (fun _ _ => rfl)) (pe_cl (ok_law_sip T) (hr.mono (by decide)) (T.g "_law_sip") (T.kp _ m_law_sip) (fun _ => pas0) (pa_cons (pv 0) (pa_cons pe_int pa_nil))) (fun _ _ => rfl)) pa_nil)))))) pss_nil)
    (pss_cons (ps_if (PW.pt (pw_and (pt_cmpR op_lt (pv 3) pe_int (nomark _)) (pw_and1 (pt_cmpR op_lt (pe_callB call_len_seq rfl (T.f "len") (by decide +kernel) (pa_cons (pe_ix ix_list (pv 2) pe_int (fun _ _ => rfl)) pa_nil)) pe_int (nomark _))))) (pss_one (ps_ret (pe_tup (pa_cons pe_str (pa_cons (pe_cl (ok_law_drawn_claim T) (hr.mono (by decide)) (T.g "_law_drawn_claim") (T.kp _ m_law_drawn_claim) (fun _ => pas0) (pa_cons (pv 0) (pa_cons (pv 1) pa_nil))) (pa_cons pe_non pa_nil)))))) pss_nil)
    (pss_cons (ps_if (pt_cmpR op_lt (pv 3) pe_int (nomark _)) (pss_one (ps_ret (pe_tup (pa_cons pe_str (pa_cons (pv 4) (pa_cons pe_non pa_nil)))))) pss_nil)
    (pss_one (ps_ret (pe_ifExp (pt_cmpR op_eq (pv 3) pe_int (nomark _)) (pe_tup (pa_cons pe_str (pa_cons (pe_op op_sub (pe_cl (ok_law_sip T) (hr.mono (by decide)) (T.g "_law_sip") (T.kp _ m_law_sip) (fun _ => pas0) (pa_cons (pv 0) (pa_cons (pe_op op_add (pe_callB call_len_seq rfl (T.f "len") (by decide +kernel) (pa_cons (pe_ix ix_list (pv 2) pe_int (fun _ _ => rfl)) pa_nil)) pe_int) pa_nil))) pe_int) (pa_cons pe_non pa_nil)))) (pe_tup (pa_cons pe_str (pa_cons pe_non (pa_cons pe_non pa_nil))))))))))), ?_⟩
  obtain ⟨c, sh, a, b, bd, L, d, l, h, b2, cs, lo, hi, st, rfl, hc, hs, hL, hl, hlc, hcl, q⟩ := h
  have hLc : L ≠ c := by
    obtain ⟨u, m, k, hk⟩ := hc
    exact ne_of hL hk (by simp)
  walk_at "rd"
  refine ⟨hc, by decide, by decide, fun H1 r1 f1 c1 g1 l1 => ?_⟩
  have s1 := hs.fr f1 hc
  have hsh1 := s1.sh
  have hL1 := f1 _ _ hLc hL
  have hl1 := f1 _ _ hlc hl
  walk_at "rd"
  refine ⟨c1, by decide, by decide, fun H2 r2 f2 c2 g2 l2 => ?_⟩
  have s2 := s1.fr f2 c1
  have hL2 := f2 _ _ hLc hL1
  have hl2 := f2 _ _ hlc hl1
  have F2 := f1.trans f2
  obtain ⟨n, hn⟩ := at_nm g2 l2
  refine ⟨_, _, _, _, rfl, rfl, SqL.of s2.b, hn, ?_⟩
  clear hn s1 hsh1 hs hL1 hl1
  have fin : ∀ {H' : Hp} {dd : Dd} {p : Addr}, Fr c H H' → CupAt H' c → H' p = none → DdAt K (upd H' p (.tup (ddV dd))) p dd → dd.ok → dd.fits st → Q (.ref p) (upd H' p (.tup (ddV dd))) := fun {H' dd p} F c' hp hd ok ft => q _ p dd (F.trans (Fr.of (same_new hp))) (c'.mono (same_new hp)) hd ok ft
  walk_at "rd"
  refine ite_d (fun c3 => ?_) (fun c3 => ?_)
  · have hsh2 := s2.sh
    walk_at "rd"
    refine ⟨c2, by decide, by decide, fun H4 r4 f4 c4 g4 l4 => ?_⟩
    have s4 := s2.fr f4 c2
    have hr : ∃ x ∈ cs, atI (cs.map fun x => V.ref x.1) r4 = some (.ref x.1) := by
      obtain ⟨k, rfl⟩ := Int.eq_ofNat_of_zero_le g4
      have hk : k < cs.length := by rw [s4.four]; omega
      exact ⟨cs[k], List.getElem_mem hk, atI_nat (by rw [List.getElem?_map, List.getElem?_eq_getElem hk]; rfl)⟩
    obtain ⟨x, hx, hr⟩ := hr
    refine ⟨_, _, _, _, rfl, rfl, SqL.of s4.a, hr, ?_⟩
    walk_at "rd"
    refine ⟨by show 3 ≤ sizeLine; decide, fun p hp => fin (dd := .put n x.1 x.2) (F2.trans f4) c4 hp ⟨upd_same, (s4.all x hx).1.mono (same_new hp), (s4.all x hx).2⟩ (s4.all x hx).2 trivial⟩
  · walk_at "rd"
    refine ite_d (fun c4 => ?_) (fun c4 => ?_)
    · walk_at "rd"
      refine ite_d (fun c5 => ?_) (fun c5 => ?_)
      · have hsh2 := s2.sh
        walk_at "rd"
        refine ⟨c, sh, a, b, bd, cs, lo, hi, rfl, c2, s2, fun H4 p4 cm f4 c8 hcm okc => ?_⟩
        walk_at "rd"
        rw [csR_len] at c5
        exact ⟨by show 3 ≤ sizeLine; decide, fun p hp => fin (dd := .claim p4 cm) (F2.trans f4) c8 hp ⟨upd_same, same_new hp _ _ hcm, okc⟩ trivial (by show st.cs.length < 5; omega)⟩
      · clear c5
        walk_at "rd"
        refine ite_d (fun c6 => ?_) (fun c6 => ?_)
        · walk_at "rd"
          exact ⟨by show 3 ≤ sizeLine; decide, fun p hp => fin (dd := .remove n) F2 c2 hp ⟨upd_same, trivial⟩ trivial trivial⟩
        · walk_at "rd"
          refine ite_d (fun c7 => ?_) (fun c7 => ?_)
          · walk_at "rd"
            refine ⟨c2, by rw [csR_len]; omega, by rw [csR_len]; omega, fun H4 r4 f4 c8 g4 l4 => ?_⟩
            rw [csR_len] at l4
            walk_at "rd"
            exact ⟨by show 3 ≤ sizeLine; decide, fun p hp => fin (dd := .lift (r4 - 1)) (F2.trans f4) c8 hp ⟨upd_same, trivial⟩ ⟨by omega, by omega⟩ trivial⟩
          · walk_at "rd"
            exact ⟨by show 3 ≤ sizeLine; decide, fun p hp => fin (dd := .undo) F2 c2 hp ⟨upd_same, trivial⟩ trivial trivial⟩
    · clear c4
      walk_at "rd"
      refine ite_d (fun c6 => ?_) (fun c6 => ?_)
      · walk_at "rd"
        exact ⟨by show 3 ≤ sizeLine; decide, fun p hp => fin (dd := .remove n) F2 c2 hp ⟨upd_same, trivial⟩ trivial trivial⟩
      · walk_at "rd"
        refine ite_d (fun c7 => ?_) (fun c7 => ?_)
        · walk_at "rd"
          refine ⟨c2, by rw [csR_len]; omega, by rw [csR_len]; omega, fun H4 r4 f4 c8 g4 l4 => ?_⟩
          rw [csR_len] at l4
          walk_at "rd"
          exact ⟨by show 3 ≤ sizeLine; decide, fun p hp => fin (dd := .lift (r4 - 1)) (F2.trans f4) c8 hp ⟨upd_same, trivial⟩ ⟨by omega, by omega⟩ trivial⟩
        · walk_at "rd"
          exact ⟨by show 3 ≤ sizeLine; decide, fun p hp => fin (dd := .undo) F2 c2 hp ⟨upd_same, trivial⟩ trivial trivial⟩
end
end K56
namespace K56
open PySem PySem.Spec PyProof.Rows L2
local macro_rules | `(tactic| walk_at "rd") => `(tactic| repeat (first | (refine ⟨_, rfl, ?_⟩) | (refine ⟨_, _, rfl, rfl, ?_⟩) | (refine ⟨rfl, ?_⟩) | (refine ⟨_, (by assumption : _ = some (HO.tup _)), ?_⟩) | (refine ⟨_, _, _, _, rfl, rfl, SqT.of (by assumption), rfl, ?_⟩) | (refine ⟨_, _, _, _, rfl, rfl, SqL.of (by assumption), rfl, ?_⟩) | (refine ⟨_, _, rfl, .inr (SqT.of (by assumption)), ?_⟩) | (refine ⟨_, _, rfl, .inl (SqL.of (by assumption)), ?_⟩) | (refine ⟨_, _, rfl, SqT.of (by assumption), rfl, ?_⟩) | (refine ⟨_, _, _, _, _, rfl, (by assumption : _ = some (HO.ins _ _ _)), Tx.cls (by assumption) _ (by decide +kernel), Tx.noat (by assumption) _ _ (by decide +kernel), rfl, ?_⟩) | (refine ⟨_, _, _, rfl, (by assumption : _ = some (HO.ins _ _ _)), _, _, rfl, (by assumption : ClAt _ _ _ _), ?_⟩) | (refine ⟨_, _, _, _, rfl, (by assumption : _ = some (HO.ins _ _ _)), Tx.cls (by assumption) _ (by decide +kernel), Tx.noat (by assumption) _ _ (by decide +kernel), Nat.le_of_ble_eq_true rfl, ?_⟩) | (refine ⟨_, _, rfl, SqT.of (by assumption), ?_⟩) | (refine ⟨_, _, rfl, SqL.of (by assumption), ?_⟩) | (refine ⟨_, _, rfl, ?_⟩) | (refine ⟨_, _, _, rfl, (by assumption : _ = some (HO.ins _ _ _)), ?_⟩) | (refine ⟨_, _, _, rfl, (by assumption : _ = some (HO.tup _)), ?_⟩) | (refine ⟨_, _, _, rfl, (by assumption : ClAt _ _ _ _), ?_⟩) | (refine ⟨_, _, _, _, _, rfl, (by assumption : ClAt _ _ _ _), (by assumption : _ = some (HO.tup _)), ?_⟩) | (refine ⟨.inl ⟨rfl, _, SqL.of (by assumption)⟩, ?_⟩) | (refine ⟨⟨_, SqL.of (by assumption)⟩, ?_⟩) | (refine ⟨⟨_, SqT.of (by assumption)⟩, ?_⟩) | (with_reducible refine ite_t ?kc ?kg; (case kc => simp; done)) | (with_reducible refine ite_f ?kc ?kg; (case kc => simp; done))))
local macro_rules | `(tactic| walk_at "sc") => `(tactic| exact ⟨rfl, rfl, rfl, by decide +kernel, rfl, by decide +kernel, by decide +kernel⟩)
theorem SqL.nt' : True := trivial
section
variable {w : World} {K : PySem.W.Frag} {mg : Str → Option Value} {base : Heap}
theorem CupAt.fx {S : List Addr} {H H' : Hp} (f : Fx S H H') {c : Addr} (hc : c ∉ S) (h : CupAt H c) : CupAt H' c := by
  obtain ⟨u, m, k, e⟩ := h
  exact ⟨u, m, k, f _ _ hc e (fun _ z => by cases z)⟩
theorem fx_dl {S M : List Addr} {H H' : Hp} (f : Fx S H H') (hS : ∀ x ∈ S, x ∈ M) : Nt (dl M H) (dl M H') := fun b o e n => by
  unfold K56.dl at e ⊢
  by_cases hb : b ∈ M
  · rw [if_pos hb] at e; cases e
  · rw [if_neg hb] at e ⊢
    exact f b o (fun z => hb (hS _ z)) e n
theorem ShAt.ext {G G' : Hp} (e : Nt G G') {sh a b bd : Addr} {cs : List (Addr × Pt)} {lo hi : Int} (h : ShAt K G sh a b bd cs lo hi) : ShAt K G' sh a b bd cs lo hi :=
  ⟨e _ _ h.sh (fun _ z => by cases z), e _ _ h.a (fun _ z => by cases z), e _ _ h.b (fun _ z => by cases z), e _ _ h.bd (fun _ z => by cases z), fun x hx => ⟨(h.all x hx).1.ext e, (h.all x hx).2⟩, h.four, h.hz⟩
/-- the three mutable things -/
structure M3 (H : Hp) (dk L c : Addr) : Prop where
  dk : ∃ dx bd s, H dk = some (.ins (ga K "Desk") dx (dkF bd s))
  L : ∃ d a h bd : Addr, H L = some (.lst [.ref d, .ref a, .ref h, .ref bd])
  c : CupAt H c
theorem M3.out {H : Hp} {dk L c : Addr} (m : M3 (K := K) H dk L c) {x : Addr} {o : HO} (e : H x = some o) (h1 : ∀ C dx bd s, o ≠ .ins C dx (dkF bd s)) (h2 : ∀ d a h bd : Addr, o ≠ .lst [.ref d, .ref a, .ref h, .ref bd]) (h3 : ∀ u v w : Int, o ≠ .lst [.int u, .int v, .int w]) : x ∉ [dk, L, c] := fun z => by
  obtain ⟨⟨dx, bd, s, k1⟩, ⟨d, a, h, bd2, k2⟩, ⟨u, v, w, k3⟩⟩ := m
  simp only [List.mem_cons, List.not_mem_nil, or_false] at z
  rcases z with rfl | rfl | rfl
  · rw [k1] at e; exact h1 _ _ _ _ (Option.some.inj e).symm
  · rw [k2] at e; exact h2 _ _ _ _ (Option.some.inj e).symm
  · rw [k3] at e; exact h3 _ _ _ (Option.some.inj e).symm
theorem M3.tup {H : Hp} {dk L c : Addr} (m : M3 (K := K) H dk L c) {x : Addr} {l : List V} (e : H x = some (.tup l)) : dl [dk, L, c] H x = some (.tup l) :=
  dl_at (m.out e (fun _ _ _ _ z => by cases z) (fun _ _ _ _ z => by cases z) (fun _ _ _ z => by cases z)) e
theorem M3.cl {H : Hp} {dk L c : Addr} (m : M3 (K := K) H dk L c) {x : Addr} {p : Pt} (h : ClAt K H x p) : ClAt K (dl [dk, L, c] H) x p := by
  obtain ⟨dx, t, h1, h2⟩ := h
  exact ⟨dx, t, dl_at (m.out h1 (fun _ _ _ _ z => by cases z) (fun _ _ _ _ z => by cases z) (fun _ _ _ z => by cases z)) h1, m.tup h2⟩
theorem M3.dd {H : Hp} {dk L c : Addr} (m : M3 (K := K) H dk L c) {p : Addr} {d : Dd} (h : DdAt K H p d) : DdAt K (dl [dk, L, c] H) p d := by
  obtain ⟨h1, h2⟩ := h
  refine ⟨m.tup h1, ?_⟩
  cases d with
  | put n a p => exact ⟨m.cl h2.1, h2.2⟩
  | claim a c => exact ⟨m.tup h2.1, h2.2⟩
  | _ => trivial
theorem M3.shelf {H : Hp} {dk L c : Addr} (m : M3 (K := K) H dk L c) {sh a b bd : Addr} {cs : List (Addr × Pt)} {lo hi : Int} (ha : a ∉ [dk, L, c]) (h : ShAt K H sh a b bd cs lo hi) : ShAt K (dl [dk, L, c] H) sh a b bd cs lo hi := by
  obtain ⟨h1, h2, h3, h4, h5, h6, h7⟩ := h
  exact ⟨dl_at (m.out h1 (fun _ _ _ _ z => by cases z) (fun _ _ _ _ z => by cases z) (fun _ _ _ z => by cases z)) h1, dl_at ha h2, dl_at (m.out h3 (fun _ _ _ _ z => by cases z) (fun _ _ _ _ z => by cases z) (fun _ _ _ z => by cases z)) h3, m.tup h4, fun x hx => ⟨m.cl (h5 x hx).1, (h5 x hx).2⟩, h6, h7⟩
theorem WAt.same {M : List Addr} {H H' : Hp} {dk bd L : Addr} {st : Sta} (S : Same H H') (h : WAt K M H dk bd L st) : WAt K M H' dk bd L st := ⟨h.lt.ext (nt_of S), h.dk.same S, h.lw.same S, h.tb.ext S⟩
theorem WAt.fr {M : List Addr} {H H' : Hp} {dk bd L c : Addr} {st : Sta} (f : Fr c H H') (hm : c ∈ M) (hc : CupAt H c) (hc' : CupAt H' c) (h : WAt K M H dk bd L st) : WAt K M H' dk bd L st := by
  obtain ⟨u, m, k, e⟩ := hc
  obtain ⟨u', m', k', e'⟩ := hc'
  have n1 : dk ≠ c := by
    obtain ⟨dx, s, n, td, tc, p, pvs, h1, _⟩ := h.dk
    exact ne_of h1 e (by simp)
  have n2 : L ≠ c := by
    obtain ⟨d, a, h, hvs, h1, _⟩ := h.lw
    exact ne_of h1 e (by simp)
  exact ⟨h.lt.fr f e' (fun _ z => by cases z), h.dk.fr hm f n1, h.lw.fr hm f n2, Tabs.fr h.tb f e (fun _ z => by cases z) (fun _ z => by cases z)⟩
theorem after_ok {ms : List Int} {k : Nat} {st : Sta} (h : StOk k st) {dd : Dd} (hf : dd.fits st) : StOk (k + 1) (after ms st dd) := by
  unfold after
  split
  · exact h.le (Nat.le_succ k)
  · rename_i c
    exact h.become (by cases e : due ms st dd with | none => rfl | some u => rw [e] at c; exact absurd rfl c) hf
theorem after_undo {ms : List Int} {k : Nat} {st : Sta} (h : StOk k st) : StOk k (after ms st .undo) := by
  unfold after
  split
  · exact h
  · exact h.undo
/-- all that holds between the steps -/
structure Big (K : PySem.W.Frag) (H : Hp) (dk L c sh a b bd : Addr) (cs : List (Addr × Pt)) (lo hi : Int) (k : Nat) (st : Sta) : Prop where
  wa : WAt K [dk, L, c] H dk bd L st
  cu : CupAt H c
  sv : ShAt K (dl [dk, L, c] H) sh a b bd cs lo hi
  ok : StOk k st
theorem Big.m3 {H : Hp} {dk L c sh a b bd : Addr} {cs : List (Addr × Pt)} {lo hi : Int} {k : Nat} {st : Sta} (h : Big K H dk L c sh a b bd cs lo hi k st) : M3 (K := K) H dk L c := by
  refine ⟨?_, ?_, h.cu⟩
  · obtain ⟨dx, s, n, td, tc, p, pvs, h1, _⟩ := h.wa.dk
    exact ⟨_, _, _, h1⟩
  · obtain ⟨d, a, h, hvs, h1, _⟩ := h.wa.lw
    exact ⟨_, _, _, _, h1⟩
theorem Big.same {H H' : Hp} {dk L c sh a b bd : Addr} {cs : List (Addr × Pt)} {lo hi : Int} {k : Nat} {st : Sta} (S : Same H H') (h : Big K H dk L c sh a b bd cs lo hi k st) : Big K H' dk L c sh a b bd cs lo hi k st :=
  ⟨h.wa.same S, h.cu.mono S, h.sv.mono (K56.Same.dl S), h.ok⟩
theorem Big.did {H H' : Hp} {dk L c sh a b bd : Addr} {cs : List (Addr × Pt)} {lo hi : Int} {k k' : Nat} {st st' : Sta} (f : Fx [dk, L] H H') (h : Big K H dk L c sh a b bd cs lo hi k st) (w : WAt K [dk, L, c] H' dk bd L st') (hk : StOk k' st') : Big K H' dk L c sh a b bd cs lo hi k' st' := by
  have m := h.m3
  have nc : c ∉ [dk, L] := by
    obtain ⟨⟨dx, bd, s, k1⟩, ⟨d, a, h, bd2, k2⟩, ⟨u, v, w, k3⟩⟩ := m
    simp only [List.mem_cons, List.not_mem_nil, or_false, not_or]
    exact ⟨ne_of k3 k1 (by simp), ne_of k3 k2 (by simp)⟩
  exact ⟨w, h.cu.fx f nc, h.sv.ext (fx_dl f (fun x hx => by simp only [List.mem_cons, List.not_mem_nil, or_false] at hx ⊢; rcases hx with z | z <;> simp [z])), hk⟩
theorem Big.drawn {H H' : Hp} {dk L c sh a b bd : Addr} {cs : List (Addr × Pt)} {lo hi : Int} {k : Nat} {st : Sta} (f : Fr c H H') (h : Big K H dk L c sh a b bd cs lo hi k st) (hc : CupAt H' c) : Big K H' dk L c sh a b bd cs lo hi k st :=
  ⟨h.wa.fr f (by simp) h.cu hc, hc, h.sv.mono (f.dl (by simp)), h.ok⟩
theorem Fx.sub {S S' : List Addr} {H H' : Hp} (f : Fx S H H') (h : ∀ x ∈ S, x ∈ S') : Fx S' H H' := fun b o n e z => f b o (fun y => n (h _ y)) e z
def sp_law_right (K : PySem.W.Frag) : Sp := fun vs H Q _ => ∃ (c : Addr), vs = [.ref c] ∧ CupAt H c ∧ LamX.Tabs [((He.cT K d_law_did.at_).2, lamQ)] H ∧ ∀ H', Fx [c] H H' → LamX.Tabs [((He.cT K d_law_did.at_).2, lamQ)] H' → Q (.bl true) H'
theorem sc_law_right : FnScope ["_law_cup_here", "_law_shelf_here", "_law_desk", "_law_state", "_law_k", "_law_deed"] ["_law_cup_here"] (defScope s_law_right) := by walk_at "sc"
theorem ok_law_right (T : Tx w K mg) (TB : LamX.TabB base mg (He.cT K d_law_did.at_).1 (He.cT K d_law_did.at_).2) : FnG PG w K mg base 22 (ga K "_law_right") (sp_law_right K) := by
  obtain ⟨fd, F⟩ := T.fn _ m_law_right
  refine fn_mkG (at_ := d_law_right.at_) F (F.bindsN fun _ _ _ _ _ _ us hl => match us, hl with | [_], _ => rfl) sc_law_right (fun vs H Q E h => by obtain ⟨c, rfl, hc, tb, q⟩ := h; rfl) ?_
  intro cdv A outer s0 H vs Q E hcd hg hr h
  obtain ⟨c, rfl, hc, tb, q⟩ := h
  refine ⟨_, PSs.nox (pss_cons (ps_set (i := 1) sc_law_right.nd rfl (Or.inl rfl) (pe_cl (ok_law_shelf T) (hr.mono (by decide)) (T.g "_law_shelf") (T.kp _ m_law_shelf) (fun _ => pas0) (pa_cons (pv 0) pa_nil)))
    (pss_cons (ps_par (i := 2) (j := 3) rfl sc_law_right.nd rfl rfl (by decide) rfl rfl (pa_cons (pe_mk (T.mkr "Desk" (by decide +kernel)) (ok_Desk_init T) (hr.mono (by decide)) (T.g "Desk") (pa_cons (pe_ix ix_list (pv 1) pe_int (fun _ _ => rfl)) pa_nil)) (pa_cons (pe_lst (pa_cons pe_dnewK (pa_cons (pe_lst pa_nil) (pa_cons (pe_lst pa_nil) (pa_cons (pe_ix ix_list (pv 1) pe_int (fun _ _ => rfl)) pa_nil))))) pa_nil)) rfl)
    (pss_cons (ps_if (PW.pt (pw_or (pt_not (pt_val (pe_clG (ok_law_same T) hg (hr.mono (by decide)) (T.g "_law_same") (T.kp _ m_law_same) (fun _ => pas0) (pa_cons (pv 2) (pa_cons (pv 3) pa_nil))))) (pw_or1 (pt_not (pt_val (pe_clG (ok_law_did T TB) hg (hr.mono (by decide)) (T.g "_law_did") (T.kp _ m_law_did) (fun _ => pas0) (pa_cons (pv 2) (pa_cons (pv 3) (pa_cons (pe_tup (pa_cons pe_str (pa_cons pe_non (pa_cons pe_non pa_nil)))) pa_nil))))))))) (pss_one (ps_ret pe_bl)) pss_nil)
    (pss_cons (ps_for PassesOwn.never rfl (pi_range1 rfl (T.f "range") (pa_cons pe_int pa_nil)) (pg_name (i := 4) sc_law_right.nd rfl (Or.inl rfl)) (pss_cons (ps_set (i := 5) sc_law_right.nd rfl (Or.inl rfl) (pe_cl (ok_law_drawn_deed T) (hr.mono (by decide)) (T.g "_law_drawn_deed") (T.kp _ m_law_drawn_deed) (fun _ => pas0) (pa_cons (pv 0) (pa_cons (pv 1) (pa_cons (pv 3) pa_nil)))))
    (pss_one (ps_if (PW.pt (pw_or (pt_not (pt_val (pe_clG (ok_law_did T TB) hg (hr.mono (by decide)) (T.g "_law_did") (T.kp _ m_law_did) (fun _ => pas0) (pa_cons (pv 2) (pa_cons (pv 3) (pa_cons (pv 5) pa_nil)))))) (pw_or1 (pt_not (pt_val (pe_clG (ok_law_same T) hg (hr.mono (by decide)) (T.g "_law_same") (T.kp _ m_law_same) (fun _ => pas0) (pa_cons (pv 2) (pa_cons (pv 3) pa_nil)))))))) (pss_one (ps_ret pe_bl)) pss_nil))))
    (pss_cons (ps_for PassesOwn.never rfl (pi_range1 rfl (T.f "range") (pa_cons (pe_op op_add (pe_callB call_len_seq rfl (T.f "len") (by decide +kernel) (pa_cons (pe_ix ix_list (pv 3) pe_int (fun _ _ => rfl)) pa_nil)) pe_int) pa_nil)) (pg_name (i := 4) sc_law_right.nd rfl (Or.inl rfl)) (pss_one (ps_if (PW.pt (pw_or (pt_not (pt_val (pe_clG (ok_law_did T TB) hg (hr.mono (by decide)) (T.g "_law_did") (T.kp _ m_law_did) (fun _ => pas0) (pa_cons (pv 2) (pa_cons (pv 3) (pa_cons (pe_tup (pa_cons pe_str (pa_cons pe_non (pa_cons pe_non pa_nil)))) pa_nil)))))) (pw_or1 (pt_not (pt_val (pe_clG (ok_law_same T) hg (hr.mono (by decide)) (T.g "_law_same") (T.kp _ m_law_same) (fun _ => pas0) (pa_cons (pv 2) (pa_cons (pv 3) pa_nil)))))))) (pss_one (ps_ret pe_bl)) pss_nil)))
    (pss_one (ps_ret (pe_and (pe_clG (ok_law_did T TB) hg (hr.mono (by decide)) (T.g "_law_did") (T.kp _ m_law_did) (fun _ => pas0) (pa_cons (pv 2) (pa_cons (pv 3) (pa_cons (pe_tup (pa_cons pe_str (pa_cons pe_str (pa_cons (pe_ix ix_list (pe_ix ix_list (pv 1) pe_int (fun _ _ => rfl)) pe_int (fun _ _ => rfl)) pa_nil)))) pa_nil)))) (pe_one (pe_clG (ok_law_same T) hg (hr.mono (by decide)) (T.g "_law_same") (T.kp _ m_law_same) (fun _ => pas0) (pa_cons (pv 2) (pa_cons (pv 3) pa_nil)))))))))))), ?_⟩
  walk_at "rd"
  refine ⟨hc, fun H1 sh a b bd cs lo hi f1 c1 s1 => ?_⟩
  have hc' := hc
  obtain ⟨u0, m0, k0, hcl⟩ := hc'
  have tb1 := Tabs.fr tb f1 hcl (fun _ z => by cases z) (fun _ z => by cases z)
  have hsh1 := s1.sh
  walk_at "rd"
  intro dk dx hdk hdx hne
  have sameD : Same H1 (upd (upd H1 dx (.own dk)) dk (.ins (ga K "Desk") dx [])) := made_same hdk hdx hne
  refine ⟨dk, bd, dx, lo, hi, rfl, upd_same, (s1.mono sameD).bd, ⟨s1.hz.1, s1.hz.2.1, s1.hz.2.2.1⟩, fun H2 F2 D2 => ⟨rfl, ?_⟩⟩
  have S12 : Same H1 H2 := fun b o e => F2 b o (ne_of_none e hdk) (sameD _ _ e)
  have hsh2 := S12 _ _ hsh1
  walk_at "rd"
  refine fun d hd => ?_
  generalize e3 : upd H2 d _ = H3
  have S3 : Same H2 H3 := e3 ▸ same_new hd
  have u3 : H3 d = some (.dK []) := e3 ▸ upd_same
  walk_at "rd"
  refine ⟨by show 0 ≤ sizeLine; decide, fun la hla => ?_⟩
  generalize e4 : upd H3 la _ = H4
  have S4 : Same H3 H4 := e4 ▸ same_new hla
  have u4 : H4 la = some (.lst []) := e4 ▸ upd_same
  walk_at "rd"
  refine ⟨by show 0 ≤ sizeLine; decide, fun lh hlh => ?_⟩
  generalize e5 : upd H4 lh _ = H5
  have S5 : Same H4 H5 := e5 ▸ same_new hlh
  have u5 : H5 lh = some (.lst []) := e5 ▸ upd_same
  have S25 := (S3.trans S4).trans S5
  have hsh5 := S25 _ _ hsh2
  walk_at "rd"
  refine ⟨by show 4 ≤ sizeLine; decide, fun L hL => ?_⟩
  generalize e6 : upd H5 L _ = H6
  have S6 : Same H5 H6 := e6 ▸ same_new hL
  have u6 : H6 L = some (.lst [.ref d, .ref la, .ref lh, .ref bd]) := e6 ▸ upd_same
  have S26 := S25.trans S6
  have S16 := S12.trans S26
  have c6 := c1.mono S16
  have s6 := s1.mono S16
  obtain ⟨dx', sa, na, td, tc, pa, pvs, k1, k2, k3, ⟨k4, _⟩, ⟨k5, _⟩, k6, k7⟩ := D2
  cases k7
  have k1' := S26 _ _ k1
  have m6 : M3 (K := K) H6 dk L c := ⟨⟨_, _, _, k1'⟩, ⟨_, _, _, _, u6⟩, c6⟩
  have na3 : a ∉ [dk, L, c] := by
    simp only [List.mem_cons, List.not_mem_nil, or_false, not_or]
    refine ⟨ne_of_none s1.a hdk, ne_of_none (S25 _ _ (S12 _ _ s1.a)) hL, ?_⟩
    obtain ⟨u, m, k, z⟩ := c1
    refine ne_of s1.a z (fun e => ?_)
    have e2 := congrArg List.length (HO.lst.inj e)
    rw [List.length_map, s1.four] at e2
    cases e2
  have B : Big K H6 dk L c sh a b bd cs lo hi 0 ⟨[], [], []⟩ := by
    refine ⟨⟨fun x hx => ?_, ⟨dx', sa, na, td, tc, pa, [], k1', m6.tup (S26 _ _ (dl_le _ _ k2)), m6.tup (S26 _ _ (dl_le _ _ k3)), ⟨dl_at (m6.out (S26 _ _ (dl_le _ _ k4)) (fun _ _ _ _ z => by cases z) (fun _ _ _ _ z => by cases z) (fun _ _ _ z => by cases z)) (S26 _ _ (dl_le _ _ k4)), fun _ h => absurd h List.not_mem_nil⟩,
      ⟨m6.tup (S26 _ _ (dl_le _ _ k5)), fun _ h => absurd h List.not_mem_nil⟩, m6.tup (S26 _ _ (dl_le _ _ k6)), .nil⟩, ⟨d, la, lh, [], u6, ⟨dl_at (m6.out (S6 _ _ (S5 _ _ (S4 _ _ u3))) (fun _ _ _ _ z => by cases z) (fun _ _ _ _ z => by cases z) (fun _ _ _ z => by cases z)) (S6 _ _ (S5 _ _ (S4 _ _ u3))), fun _ h => absurd h List.not_mem_nil⟩,
      ⟨dl_at (m6.out (S6 _ _ (S5 _ _ u4)) (fun _ _ _ _ z => by cases z) (fun _ _ _ _ z => by cases z) (fun _ _ _ z => by cases z)) (S6 _ _ (S5 _ _ u4)), fun _ h => absurd h List.not_mem_nil⟩, dl_at (m6.out (S6 _ _ u5) (fun _ _ _ _ z => by cases z) (fun _ _ _ _ z => by cases z) (fun _ _ _ z => by cases z)) (S6 _ _ u5), .nil⟩, tb1.ext S16⟩, c6, m6.shelf na3 s6, StOk.begin⟩
    obtain ⟨u, m, k, z⟩ := c6
    simp only [List.mem_cons, List.not_mem_nil, or_false] at hx
    rcases hx with rfl | rfl | rfl
    · exact ⟨_, k1', fun _ z => by cases z⟩
    · exact ⟨_, u6, fun _ z => by cases z⟩
    · exact ⟨_, z, fun _ z => by cases z⟩
  have FX : Fx [c, dk, L] H H6 := (Fx.fr f1 (by simp)).trans (Fx.same S16)
  have sub : ∀ x ∈ [dk, L], x ∈ [c, dk, L] := fun x hx => List.mem_cons_of_mem _ hx
  have hdk0 : H dk = none := by
    cases e : H dk with
    | none => rfl
    | some o =>
      by_cases z : dk = c
      · obtain ⟨u, m, k, y⟩ := c1
        rw [z, y] at hdk
        cases hdk
      · rw [f1 _ _ z e] at hdk
        cases hdk
  have hL0 : H L = none := by
    cases e : H L with
    | none => rfl
    | some o =>
      by_cases z : L = c
      · obtain ⟨u, m, k, y⟩ := c1
        rw [z, S25 _ _ (S12 _ _ y)] at hL
        cases hL
      · rw [S25 _ _ (S12 _ _ (f1 _ _ z e))] at hL
        cases hL
  have fin : ∀ {H' : Hp} {k : Nat} {st : Sta}, Fx [c, dk, L] H H' → Big K H' dk L c sh a b bd cs lo hi k st → Q (.bl true) H' := fun {H' k st} F B' => q H' (fun b o n e z => F b o (fun y => by
      simp only [List.mem_cons, List.not_mem_nil, or_false] at y n
      rcases y with rfl | rfl | rfl
      · exact n rfl
      · rw [hdk0] at e; cases e
      · rw [hL0] at e; cases e) e z) B'.wa.tb
  clear e3 e4 e5 e6 S25 hsh5 u3 u4 u5 u6 m6 c6 s6 k1' k1 k2 k3 k4 k5 k6 hsh2 F2 sameD tb1 hdk0 hL0
  walk_at "rd"
  refine ⟨[dk, L, c], dk, bd, L, _, lo, hi, rfl, B.wa.dk, B.wa.lw, dl_le _ _ B.sv.bd, ⟨B.sv.hz.1, B.sv.hz.2.1, B.sv.hz.2.2.1⟩, B.ok.le (by omega), fun H7 S7 => ?_⟩
  have B7 := B.same S7
  have FX7 := FX.trans (Fx.same S7)
  walk_at "rd"
  refine ⟨by show 3 ≤ sizeLine; decide, fun de hde => ?_⟩
  generalize e8 : upd H7 de _ = H8
  have S8 : Same H7 H8 := e8 ▸ same_new hde
  have u8 : H8 de = some (.tup [.str "undo", .non, .non]) := e8 ▸ upd_same
  have B8 := B7.same S8
  refine ⟨[dk, L, c], dk, bd, L, _, _, lo, hi, .undo, rfl, by simp, by simp, B8.wa, B8.m3.dd ⟨u8, trivial⟩, trivial, dl_le _ _ B8.sv.bd, B8.sv.hz, B8.ok.le (by omega), fun H9 F9 B9w => ?_⟩
  have B9 := B8.did F9 B9w (after_undo B8.ok)
  have FX9 := (FX7.trans (Fx.same S8)).trans (F9.sub sub)
  clear e8
  walk_at "rd"
  refine ⟨by decide, by decide, for_it walk_range (fun i σ H3 => Fx [c, dk, L] H H3 ∧ (∃ v4 v5, σ = [some (.ref c), some (.ref sh), some (.ref dk), some (.ref L), v4, v5]) ∧ ∃ st, Big K H3 dk L c sh a b bd cs lo hi i st)
    ⟨FX9, ⟨_, _, rfl⟩, _, B9⟩ (fun _ _ _ _ _ => True.intro) (fun i x σ H3 H4 hi' h hy => ?_) fun σ H3 h => ?_⟩
  · obtain ⟨F3, ⟨v4, v5, rfl⟩, st, B3⟩ := h
    obtain ⟨e4, hx0⟩ := hy
    subst e4
    subst hx0
    have hi18 : i < 18 := by simpa using hi'
    obtain ⟨d3, a3, h3, hvs3, l3, l4, l5, l6, l7⟩ := id B3.wa.lw
    have hac : a3 ≠ c := fun z => by
      have y := l5.1
      rw [z, dl_in (by simp)] at y
      cases y
    walk_at "rd"
    refine ⟨c, sh, a, b, bd, L, d3, a3, h3, bd, cs, lo, hi, st, rfl, B3.cu, B3.sv.mono dl_le, l3, dl_le _ _ l5.1, hac, B3.ok.now.cl, fun H5 p dd F5 c5 hdd okd ft => ?_⟩
    have B5 := B3.drawn F5 c5
    have FX5 := F3.trans (Fx.fr F5 (by simp))
    walk_at "rd"
    refine ⟨[dk, L, c], dk, bd, L, _, _, lo, hi, _, rfl, by simp, by simp, B5.wa, B5.m3.dd hdd, okd, dl_le _ _ B5.sv.bd, B5.sv.hz, B5.ok.le (by omega), fun H6 F6 B6w => ?_⟩
    have B6 := B5.did F6 B6w (after_ok B5.ok ft)
    have FX6 := FX5.trans (F6.sub sub)
    walk_at "rd"
    refine ⟨[dk, L, c], dk, bd, L, _, lo, hi, rfl, B6.wa.dk, B6.wa.lw, dl_le _ _ B6.sv.bd, ⟨B6.sv.hz.1, B6.sv.hz.2.1, B6.sv.hz.2.2.1⟩, B6.ok.le (by omega), fun H7 S7 => ?_⟩
    walk_at "rd"
    exact ⟨FX6.trans (Fx.same S7), ⟨_, _, rfl⟩, _, B6.same S7⟩
  · obtain ⟨F3, ⟨v4, v5, rfl⟩, st, B3⟩ := h
    have B3 : Big K H3 dk L c sh a b bd cs lo hi 18 st := B3
    obtain ⟨d3, a3, h3, hvs3, l3, l4, l5, l6, l7⟩ := id B3.wa.lw
    have hh3 := dl_le _ _ l6
    have hlen : hvs3.length ≤ 18 := by rw [Paired.length l7]; exact B3.ok.len
    walk_at "rd"
    refine ⟨by omega, by omega, for_it walk_range (fun i σ H4 => Fx [c, dk, L] H H4 ∧ (∃ v4 v5, σ = [some (.ref c), some (.ref sh), some (.ref dk), some (.ref L), v4, v5]) ∧ ∃ st, Big K H4 dk L c sh a b bd cs lo hi 18 st)
      ⟨F3, ⟨_, _, rfl⟩, _, B3⟩ (fun _ _ _ _ _ => True.intro) (fun i x σ H4 H5 hi' h hy => ?_) fun σ H4 h => ?_⟩
    · obtain ⟨F4, ⟨v4, v5, rfl⟩, st, B4⟩ := h
      obtain ⟨e4, hx0⟩ := hy
      subst e4
      subst hx0
      walk_at "rd"
      refine ⟨by show 3 ≤ sizeLine; decide, fun de hde => ?_⟩
      generalize e8 : upd H5 de _ = H6
      have S6 : Same H5 H6 := e8 ▸ same_new hde
      have u6 : H6 de = some (.tup [.str "undo", .non, .non]) := e8 ▸ upd_same
      have B6 := B4.same S6
      refine ⟨[dk, L, c], dk, bd, L, _, _, lo, hi, .undo, rfl, by simp, by simp, B6.wa, B6.m3.dd ⟨u6, trivial⟩, trivial, dl_le _ _ B6.sv.bd, B6.sv.hz, B6.ok.le (by omega), fun H7 F7 B7w => ?_⟩
      have B7 := B6.did F7 B7w (after_undo B6.ok)
      have FX7 := (F4.trans (Fx.same S6)).trans (F7.sub sub)
      walk_at "rd"
      refine ⟨[dk, L, c], dk, bd, L, _, lo, hi, rfl, B7.wa.dk, B7.wa.lw, dl_le _ _ B7.sv.bd, ⟨B7.sv.hz.1, B7.sv.hz.2.1, B7.sv.hz.2.2.1⟩, B7.ok.le (by omega), fun H8 S8 => ?_⟩
      walk_at "rd"
      exact ⟨FX7.trans (Fx.same S8), ⟨_, _, rfl⟩, _, B7.same S8⟩
    · obtain ⟨F4, ⟨v4, v5, rfl⟩, st, B4⟩ := h
      have sv4 := B4.sv.mono dl_le
      have hsh4 := sv4.sh
      have hx : ∃ x r, cs = x :: r := by
        have h4 := sv4.four
        cases cs with
        | nil => cases h4
        | cons x r => exact ⟨x, r, rfl⟩
      obtain ⟨x, r, hxr⟩ := hx
      have ha4 : H4 a = some (.lst (.ref x.1 :: r.map fun x => .ref x.1)) := by rw [sv4.a, hxr]; rfl
      have hxa := sv4.all x (by rw [hxr]; exact List.mem_cons_self ..)
      walk_at "rd"
      refine ⟨_, _, _, _, rfl, rfl, SqL.of ha4, (show atI _ ((0 : Nat) : Int) = some (.ref x.1) from atI_nat rfl), ?_⟩
      walk_at "rd"
      refine ⟨by show 3 ≤ sizeLine; decide, fun de hde => ?_⟩
      generalize e8 : upd H4 de _ = H6
      have S6 : Same H4 H6 := e8 ▸ same_new hde
      have u6 : H6 de = some (.tup [.str (nmS false), .str "one", .ref x.1]) ∨ True := .inr trivial
      have u6 : H6 de = some (.tup [.str "put", .str (nmS false), .ref x.1]) := e8 ▸ upd_same
      have B6 := B4.same S6
      refine ⟨[dk, L, c], dk, bd, L, _, _, lo, hi, .put false x.1 x.2, rfl, by simp, by simp, B6.wa, B6.m3.dd ⟨u6, hxa.1.mono S6, hxa.2⟩, hxa.2, dl_le _ _ B6.sv.bd, B6.sv.hz, B6.ok.le (by omega), fun H7 F7 B7w => ?_⟩
      have B7 := B6.did F7 B7w (after_ok B6.ok trivial)
      have FX7 := (F4.trans (Fx.same S6)).trans (F7.sub sub)
      walk_at "rd"
      exact ⟨[dk, L, c], dk, bd, L, _, lo, hi, rfl, B7.wa.dk, B7.wa.lw, dl_le _ _ B7.sv.bd, ⟨B7.sv.hz.1, B7.sv.hz.2.1, B7.sv.hz.2.2.1⟩, B7.ok.le (by omega), fun H8 S8 => fin (FX7.trans (Fx.same S8)) (B7.same S8)⟩
def sp_law (K : PySem.W.Frag) : Sp := fun vs H Q _ => ∃ (xs : Addr) (ns : List Int), vs = [.ref xs] ∧ SqL K H xs (ns.map V.int) ∧ ns.length ≤ 63 ∧ LamX.Tabs [((He.cT K d_law_did.at_).2, lamQ)] H ∧ ∀ H', Q (.bl true) H'
theorem sc_law : FnScope ["_law_cells", "_law_turn"] ["_law_cells"] (defScope s_law) := by walk_at "sc"
theorem ok_law (T : Tx w K mg) (TB : LamX.TabB base mg (He.cT K d_law_did.at_).1 (He.cT K d_law_did.at_).2) : FnG PG w K mg base 23 (ga K "law") (sp_law K) := by
  obtain ⟨fd, F⟩ := T.fn _ m_law
  refine fn_mkG (at_ := d_law.at_) F (F.bindsN fun _ _ _ _ _ _ us hl => match us, hl with | [_], _ => rfl) sc_law (fun vs H Q E h => by obtain ⟨xs, ns, rfl, hx, hn, tb, q⟩ := h; rfl) ?_
  intro cdv A outer s0 H vs Q E hcd hg hr h
  obtain ⟨xs, ns, rfl, hx, hn, tb, q⟩ := h
  refine ⟨_, PSs.nox (pss_one (ps_ret (pe_callB (cr_all rfl) rfl (T.f "all") (by decide +kernel) (pa_cons (pe_lc (own := [("_law_turn", 1)]) (g := gName 1) rfl sc_law.nd (pi_range1 rfl (T.f "range") (pa_cons (pe_callB (call_max2 rfl) rfl (T.f "max") (by decide +kernel) (pa_cons pe_int (pa_cons (pe_callB (call_min2 rfl) rfl (T.f "min") (by decide +kernel) (pa_cons (pe_callB call_len_seq rfl (T.f "len") (by decide +kernel) (pa_cons (pv 0) pa_nil)) (pa_cons pe_int pa_nil))) pa_nil))) pa_nil)) (blkOk_by (N := ["_law_cells", "_law_turn"]) (sc := defScope s_law) (by decide +kernel)) (fun _ _ _ _ _ => (pg_name (i := 1) sc_law.nd rfl (Or.inl rfl))) (fun _ _ _ _ _ => pts_nil) (fun _ _ _ _ _ => (pe_clG (ok_law_right T TB) hg (hr.mono (by decide)) (T.g "_law_right") (T.kp _ m_law_right) (fun _ => pas0) (pa_cons (pe_cl (ok_law_cup T) (hr.mono (by decide)) (T.g "_law_cup") (T.kp _ m_law_cup) (fun _ => pas0) (pa_cons (pv 0) (pa_cons (pv 1) pa_nil))) pa_nil)))) pa_nil)))), ?_⟩
  have hN : ∀ l : Nat, 2 ≤ (if (if (3 : Int) < l then 3 else (l : Int)) > 2 then (if (3 : Int) < l then 3 else (l : Int)) else 2) ∧ (if (if (3 : Int) < l then 3 else (l : Int)) > 2 then (if (3 : Int) < l then 3 else (l : Int)) else 2) ≤ 3 := by
    intro l
    split <;> split <;> omega
  walk_at "rd"
  refine ⟨_, _, rfl, .inl hx, ?_⟩
  walk_at "rd"
  obtain ⟨hN1, hN2⟩ := hN (ns.map V.int).length
  generalize (if (if (3 : Int) < (ns.map V.int).length then 3 else ((ns.map V.int).length : Int)) > 2 then (if (3 : Int) < (ns.map V.int).length then 3 else ((ns.map V.int).length : Int)) else 2) = N at hN1 hN2
  refine ⟨by omega, by omega, fun D hD => lc_it walk_range (fun i H1 => Nt H H1 ∧ LamX.Tabs [((He.cT K d_law_did.at_).2, lamQ)] H1 ∧ H1 D = some (.lst ((List.replicate i true).map V.bl)))
    ⟨nt_of (same_new hD), tb.ext (same_new hD), upd_same⟩ (fun _ _ _ _ => True.intro) (fun i x H1 H2 hi h hy => ?_) fun H1 h => ?_⟩
  · obtain ⟨e, hx0⟩ := hy
    have hx0 : x = .int (i : Nat) := by
      rw [hx0]
      show V.int (0 + (i : Int)) = _
      rw [Int.zero_add]
    subst hx0
    subst e
    obtain ⟨E1, T1, f1⟩ := h
    walk_at "rd"
    refine ⟨xs, ns, i, rfl, SqL.nt (fun b o e n => E1 b o e n) hx, by omega, hn, fun H3 c S3 c3 hc0 => ?_⟩
    have T3 := T1.ext S3
    have f3 := S3 _ _ f1
    walk_at "rd"
    refine ⟨c3, T3, fun H4 F4 T4 => ?_⟩
    have hDc : D ≠ c := ne_of_none f1 hc0
    have f4 := F4 _ _ (by simpa using hDc) f3 (fun _ z => by cases z)
    refine ⟨_, f4, by rw [List.length_map, List.length_replicate, sizeLine_eq]; omega, fun b o e n => ?_, Tabs.fr T4 Fr.upd f4 (fun _ z => by cases z) (fun _ z => by cases z), ?_⟩
    · rw [upd_ne (ne_of_none e hD)]
      have e1 := E1 b o e n
      exact F4 _ _ (by simpa using ne_of_none e1 hc0) (S3 _ _ e1) n
    · rw [upd_same, List.replicate_succ', List.map_append]
      rfl
  · obtain ⟨E1, T1, f1⟩ := h
    refine ⟨D, _, rfl, SqL.of f1, ?_⟩
    rw [show (List.replicate N.toNat true).all id = true by rw [List.all_eq_true]; intro b hb; rw [(List.mem_replicate.mp hb).2]; rfl]
    exact q H1
end
end K56
namespace K56
open PySem PySem.Spec PyProof.Rows L2
section
variable {w : World} {K : PySem.W.Frag} {mg : Str → Option Value} {h : Heap}
theorem fa_glo {x : Str} (hx : glL.contains x = true) : He.Fa.glo x ∈ faL := List.mem_append_left _ (List.mem_map_of_mem (List.mem_append_left _ (List.contains_iff_mem.mp hx)))
theorem fa_law : He.Fa.glo "law" ∈ faL := List.mem_append_left _ (List.mem_map_of_mem (List.mem_append_right _ (List.mem_singleton.mpr rfl)))
theorem fa_free {x : Str} (hx : frL.contains x = true) : He.Fa.free x ∈ faL := List.mem_append_right _ (List.mem_append_left _ (List.mem_map_of_mem (List.contains_iff_mem.mp hx)))
theorem fa_int {x : Str} {i : Int} (hx : inL.contains (x, i) = true) : He.Fa.int x i ∈ faL := List.mem_append_right _ (List.mem_append_right _ (List.mem_append_left _ (List.mem_map.mpr ⟨(x, i), List.contains_iff_mem.mp hx, rfl⟩)))
theorem fa_str {x y : Str} (hx : stL.contains (x, y) = true) : He.Fa.str x y ∈ faL := List.mem_append_right _ (List.mem_append_right _ (List.mem_append_right _ (List.mem_append_left _ (List.mem_map.mpr ⟨(x, y), List.contains_iff_mem.mp hx, rfl⟩))))
theorem fa_cls {x : Str} (hx : clL.contains x = true) : He.Fa.cls x ∈ faL := List.mem_append_right _ (List.mem_append_right _ (List.mem_append_right _ (List.mem_append_right _ (List.mem_append_left _ (List.mem_map_of_mem (List.contains_iff_mem.mp hx))))))
theorem fa_noat {x y : Str} (hx : naL.contains (x, y) = true) : He.Fa.noat x y ∈ faL := List.mem_append_right _ (List.mem_append_right _ (List.mem_append_right _ (List.mem_append_right _ (List.mem_append_right _ (List.mem_append_left _ (List.mem_map.mpr ⟨(x, y), List.contains_iff_mem.mp hx, rfl⟩))))))
theorem fa_meth {x y : Str} (hx : meL.contains (x, y) = true) : He.Fa.meth x y ∈ faL := List.mem_append_right _ (List.mem_append_right _ (List.mem_append_right _ (List.mem_append_right _ (List.mem_append_right _ (List.mem_append_right _ (List.mem_append_left _ (List.mem_map.mpr ⟨(x, y), List.contains_iff_mem.mp hx, rfl⟩)))))))
theorem fa_mkr {x : Str} (hx : clL.contains x = true) : He.Fa.mkr x ∈ faL := List.mem_append_right _ (List.mem_append_right _ (List.mem_append_right _ (List.mem_append_right _ (List.mem_append_right _ (List.mem_append_right _ (List.mem_append_right _ (List.mem_append_left _ (List.mem_map_of_mem (List.contains_iff_mem.mp hx)))))))))
theorem fa_exm {a b : Str} (ha : raisedL.contains a = true) (hb : caughtL.contains b = true) : He.Fa.exm a b (decide (a = b)) ∈ faL := List.mem_append_right _ (List.mem_append_right _ (List.mem_append_right _ (List.mem_append_right _ (List.mem_append_right _ (List.mem_append_right _ (List.mem_append_right _ (List.mem_append_right _ (List.mem_flatMap.mpr ⟨a, List.contains_iff_mem.mp ha, List.mem_map.mpr ⟨b, List.contains_iff_mem.mp hb, rfl⟩⟩))))))))
theorem cell_ok {cc C : Addr} (c : cellB K cc C = true) : ∃ cl cld csl, K.lookup cc = some ⟨cl, cld, .cell (some (.ref C)), csl⟩ := by
  unfold cellB at c
  split at c
  · rename_i a b D e k
    rw [of_decide_eq_true c] at k
    exact ⟨_, _, _, k⟩
  · cases c
theorem file_ok {cd : Addr} (c : fileB K cd = true) : ∃ ccl cdd vs ccs tf, K.lookup cd = some ⟨ccl, cdd, .fields vs, ccs⟩ ∧ vs[2]? = some (.str PG.main.file tf) := by
  unfold fileB at c
  split at c
  · rename_i a b vs e k
    split at c
    · rename_i p t q
      rw [of_decide_eq_true c] at q
      exact ⟨_, _, vs, _, t, k, q⟩
    · cases c
  · cases c
theorem xtxt_ok {d : Xd} (X : K.In h) (G : h.Ns mainGlobals mg) (hgl : mg d.cls = some (.ref (ga K d.cls))) (hsup : mg "super" = none) (FB : ExcBaseFacts d.B d.newId d.initId d.bm) (SF : StoreFacts d.B d.bm "object.__setattr__" "object") (KF : PySem.W.KxsFacts d.B d.initId)
    (e : fnY K (me K d.cls "__init__") = (some (("__init__" : Str), d.qual, defArgs d.st, FuncBody.stmts (defBody d.st), defScope d.st, mainGlobals, [("__class__" : Str)], builtinsNs) : FnY)) (c : xB K d = true) (htop : (PG.main.scope.names.lookup ("super" : Str)).isSome = false) :
    XTxt PG K mg d.cls (ga K d.cls) (me K d.cls "__init__") (ccOf K (me K d.cls "__init__")) (cdOf K (me K d.cls "__init__")) d.B d.newId d.initId d.bm d.fs d.qual (defArgs d.st) (defBody d.st) (defScope d.st) := by
  obtain ⟨c1, c⟩ := He.ba c
  obtain ⟨c2, c⟩ := He.ba c
  obtain ⟨c3, c⟩ := He.ba c
  obtain ⟨c4, c⟩ := He.ba c
  obtain ⟨c5, c⟩ := He.ba c
  obtain ⟨c6, c⟩ := He.ba c
  obtain ⟨c7, c⟩ := He.ba c
  obtain ⟨c8, c⟩ := He.ba c
  obtain ⟨c9, c⟩ := He.ba c
  obtain ⟨c10, c⟩ := He.ba c
  obtain ⟨c11, c⟩ := He.ba c
  obtain ⟨c12, c⟩ := He.ba c
  obtain ⟨c13, c⟩ := He.ba c
  obtain ⟨c14, c⟩ := He.ba c
  obtain ⟨c15, c⟩ := He.ba c
  obtain ⟨c16, c⟩ := He.ba c
  obtain ⟨c17, c⟩ := He.ba c
  obtain ⟨c18, c⟩ := He.ba c
  obtain ⟨c19, c⟩ := He.ba c
  obtain ⟨c21, c20⟩ := He.ba c
  obtain ⟨oc, od, osl, cl, n8, n9, n10, n11, n12, cd, n14, hcl, hcode, hk⟩ := fy_fn e c20
  have hcd : cdOf K (me K d.cls "__init__") = cd := by unfold cdOf; rw [hk]
  obtain ⟨cc, hcl2⟩ : ∃ cc, cl = [(("__class__" : Str), cc)] := by
    match cl, hcl with
    | [(n, cc)], hc =>
      have hn : n = ("__class__" : Str) := (List.cons.inj hc).1
      exact ⟨cc, by rw [hn]⟩
  have hcc : ccOf K (me K d.cls "__init__") = cc := by
    unfold ccOf
    rw [hk, hcl2]
  have h8 : n8 = .none := by
    unfold noDfl at c21
    rw [hk] at c21
    cases n8 with
    | none => rfl
    | _ => cases c21
  subst h8
  refine ⟨hgl, hsup, FB, SF, KF, c1, c2, c3, He.eqO_ok c4, He.eqO_ok c5, He.eqO_ok c6, fun f hf => He.eqO_ok (List.all_eq_true.mp c7 f hf), He.eqO_ok c8, c9, c10, of_decide_eq_true c11, of_decide_eq_true c12, c13, He.eqO_ok c14, of_decide_eq_true c15, of_decide_eq_true c16, He.eqO_ok c17, cell_ok c18, file_ok c19, htop, ?_⟩
  rw [hcd, hcc]
  subst hcl2
  exact ⟨oc, od, n9, n10, n11, n12, n14, osl, hk, hcode⟩
theorem words_ok (c : wordsB K = true) : ∃ o its n, K.lookup (ga K "WORDS") = some o ∧ o.cls = .type "tuple" ∧ o.data = .seq its n ∧ its.size ≤ sizeLine ∧ Vals (wordsL.map V.str) its.toList := by
  unfold wordsB at c
  split at c
  · rename_i t b its e n k
    obtain ⟨h1, h2⟩ := He.ba c
    obtain ⟨h3, h4⟩ := He.ba h2
    exact ⟨_, its, _, k, by rw [of_decide_eq_true h1], rfl, of_decide_eq_true h3, He.relAll_ok h4⟩
  · cases c
end
end K56
namespace K56
open PySem PySem.Spec PyProof.Rows L2
section
variable {w : World} {K : PySem.W.Frag} {mg : Str → Option Value} {h : Heap}
theorem yd_x {d : Xd} (hd : d ∈ xdL) : (⟨fun K => me K d.cls "__init__", "__init__", d.qual, d.st, ["__class__"]⟩ : Yd) ∈ ydL := List.mem_append_right _ (List.mem_map.mpr ⟨d, hd, rfl⟩)
theorem yd_g {g : Dg} (hg : g ∈ gtL) : (⟨fun K => pgA K g.cls g.name, g.name, g.qual, g.st, []⟩ : Yd) ∈ ydL := List.mem_append_left _ (List.mem_map.mpr ⟨g, hg, rfl⟩)
theorem x1_ok {x : Str} {f : Str} {d : Xd} (hc : d.cls = x) (hf : d.fs = [f]) (T : XTxt PG K mg d.cls (ga K d.cls) (me K d.cls "__init__") (ccOf K (me K d.cls "__init__")) (cdOf K (me K d.cls "__init__")) d.B d.newId d.initId d.bm d.fs d.qual (defArgs d.st) (defBody d.st) (defScope d.st))
    (S : XScope (defScope d.st) [f]) (hpa : ((defArgs d.st).posonlyargs ++ (defArgs d.st).args).head?.map (·.arg) = some "self") {p0 p1 p2 p3 p4 q1 q2 q3 q4 : Pos} (hb : defBody d.st = [supS p0 p1 p2 p3 p4, putS f q1 q2 q3 q4]) (hl : (p2.endLine == p3.line) = true) (hd : (f == ("__debug__" : Str)) = false) (hs : f ≠ "self")
    (hbd : ∀ (s : Shared) (kV doc pm : Value) (an : Option Addr) (cd ct : Value) (cc : Addr) (a : Addr) (v : Value), BindsTo s (PySem.W.ksFn "__init__" d.qual (defArgs d.st) (defBody d.st) (defScope d.st) .none kV doc pm an cd ct cc) ⟨[.ref a, v], []⟩ [("self", .ref a), (f, v)]) : X1 PG K mg x (ga K x) f := by
  subst hc
  rw [hf] at T
  exact ⟨_, _, _, _, _, _, _, _, _, _, _, p0, p1, p2, p3, p4, q1, q2, q3, q4, T, S, hpa, hb, hl, hd, hs, fun s kV doc pm an ct a v => hbd s kV doc pm an _ ct _ a v⟩
theorem x2_ok {x : Str} {f g : Str} {d : Xd} (hc : d.cls = x) (hf : d.fs = [f, g]) (T : XTxt PG K mg d.cls (ga K d.cls) (me K d.cls "__init__") (ccOf K (me K d.cls "__init__")) (cdOf K (me K d.cls "__init__")) d.B d.newId d.initId d.bm d.fs d.qual (defArgs d.st) (defBody d.st) (defScope d.st))
    (S : XScope (defScope d.st) [f, g]) (hpa : ((defArgs d.st).posonlyargs ++ (defArgs d.st).args).head?.map (·.arg) = some "self") {p0 p1 p2 p3 p4 q1 q2 q3 q4 r1 r2 r3 r4 : Pos} (hb : defBody d.st = [supS p0 p1 p2 p3 p4, putS f q1 q2 q3 q4, putS g r1 r2 r3 r4]) (hl : (p2.endLine == p3.line) = true)
    (hd : (f == ("__debug__" : Str)) = false) (hd2 : (g == ("__debug__" : Str)) = false) (hs : f ≠ "self") (hs2 : g ≠ "self") (hfg : f ≠ g)
    (hbd : ∀ (s : Shared) (kV doc pm : Value) (an : Option Addr) (cd ct : Value) (cc : Addr) (a : Addr) (v u : Value), BindsTo s (PySem.W.ksFn "__init__" d.qual (defArgs d.st) (defBody d.st) (defScope d.st) .none kV doc pm an cd ct cc) ⟨[.ref a, v, u], []⟩ [("self", .ref a), (f, v), (g, u)]) : X2 PG K mg x (ga K x) f g := by
  subst hc
  rw [hf] at T
  exact ⟨_, _, _, _, _, _, _, _, _, _, _, p0, p1, p2, p3, p4, q1, q2, q3, q4, r1, r2, r3, r4, T, S, hpa, hb, hl, hd, hd2, hs, hs2, hfg, fun s kV doc pm an ct a v u => hbd s kV doc pm an _ ct _ a v u⟩
theorem sc_x1 : XScope (defScope (mem 11 0)) ["given"] := ⟨⟨_, rfl⟩, rfl, rfl, rfl, (fun f hf => by rw [List.mem_singleton.mp hf]; rfl), by decide +kernel, rfl, rfl, rfl⟩
theorem sc_x2 : XScope (defScope (mem 12 0)) ["index"] := ⟨⟨_, rfl⟩, rfl, rfl, rfl, (fun f hf => by rw [List.mem_singleton.mp hf]; rfl), by decide +kernel, rfl, rfl, rfl⟩
theorem sc_x3 : XScope (defScope (mem 8 0)) ["given"] := ⟨⟨_, rfl⟩, rfl, rfl, rfl, (fun f hf => by rw [List.mem_singleton.mp hf]; rfl), by decide +kernel, rfl, rfl, rfl⟩
theorem sc_x4 : XScope (defScope (mem 16 0)) ["index", "shown"] := ⟨⟨_, rfl⟩, rfl, rfl, rfl, (fun f hf => by
  rcases List.mem_cons.mp hf with z | z
  · rw [z]; rfl
  · rw [List.mem_singleton.mp z]; rfl), by decide +kernel, rfl, rfl, rfl⟩
theorem tx_of (X : K.In h) (G : h.Ns mainGlobals mg) (c : SaysY w h K) : Tx w K mg := by
  have fact : ∀ {f : He.Fa}, f ∈ faL → f.ok K = true := fun hf => c.t.d.facts hf
  obtain ⟨m1, m⟩ := He.ba c.more
  obtain ⟨m2, m⟩ := He.ba m
  obtain ⟨m3, m⟩ := He.ba m
  obtain ⟨m4, m⟩ := He.ba m
  obtain ⟨m5, m⟩ := He.ba m
  obtain ⟨m6, m⟩ := He.ba m
  obtain ⟨m7, m⟩ := He.ba m
  obtain ⟨m8, m9⟩ := He.ba m
  have glo : ∀ x, glL.contains x = true → mg x = some (.ref (ga K x)) := fun x hx => He.glo_ok X G (fact (fa_glo hx))
  have free : ∀ x, frL.contains x = true → mg x = none := fun x hx => He.free_ok X G (fact (fa_free hx))
  have hsup : mg "super" = none := free _ (by decide +kernel)
  have htop : (PG.main.scope.names.lookup ("super" : Str)).isSome = false := by decide +kernel
  have gt : ∀ g ∈ gtL, (∃ fd, FunD K g.name g.qual (defArgs g.st) (defBody g.st) (defScope g.st) [] [] (pgA K g.cls g.name) fd) ∧ PropOf K (ga K g.cls) g.name (me K g.cls g.name) (pgA K g.cls g.name) := fun g hg =>
    get_ok (fy_at c.fy (yd_g hg)) (List.all_eq_true.mp m1 g hg)
  have xt : ∀ d ∈ xdL, glL.contains d.cls = true → ExcBaseFacts d.B d.newId d.initId d.bm → StoreFacts d.B d.bm "object.__setattr__" "object" → PySem.W.KxsFacts d.B d.initId →
      XTxt PG K mg d.cls (ga K d.cls) (me K d.cls "__init__") (ccOf K (me K d.cls "__init__")) (cdOf K (me K d.cls "__init__")) d.B d.newId d.initId d.bm d.fs d.qual (defArgs d.st) (defBody d.st) (defScope d.st) := fun d hd hg FB SF KF =>
    xtxt_ok X G (glo _ hg) hsup FB SF KF (fy_at c.fy (yd_x hd)) (List.all_eq_true.mp m2 d hd) htop
  obtain ⟨n1, n⟩ := He.ba m3
  obtain ⟨n2, n⟩ := He.ba n
  obtain ⟨n3, n⟩ := He.ba n
  obtain ⟨n4, n5⟩ := He.ba n
  obtain ⟨y1, y⟩ := He.ba m6
  obtain ⟨y2, y⟩ := He.ba y
  obtain ⟨y3, y4⟩ := He.ba y
  have size : ∀ {k : Str} {i : Int}, (k, He.Dv.int i) ∈ sizesL → ∃ t, PySem.W.nsIn K (ga K "SIZES") k = some (some (.int i t)) := fun {k i} hk => by
    obtain ⟨u, h1, t, h2⟩ := He.valsB_ok m8 hk
    exact ⟨t, by rw [h1, h2]⟩
  refine {
    glo := glo, free := free, int := fun x i hx => He.int_ok X G (fact (fa_int hx)), str := fun x y hx => He.str_ok X G (fact (fa_str hx)), fn := fun d hd => c.t.d.defs hd, gt := fun g hg => (gt g hg).1, pr := fun g hg => (gt g hg).2, cls := fun x hx => He.cls_ok (fact (fa_cls hx)), noat := fun x f hx => He.noat_ok (fact (fa_noat hx)),
    meth := fun x m hx => He.meth_ok (fact (fa_meth hx)), mkr := fun x hx => He.mkr_ok (fact (fa_mkr hx)), isc := ⟨He.cls_ok (fact (fa_cls (by decide +kernel))), He.eqO_ok n1, He.eqO_ok n2, of_decide_eq_true n3, of_decide_eq_true n4, of_decide_eq_true n5⟩, noseq := m4, isC := fun x hx => List.all_eq_true.mp m5 x (List.contains_iff_mem.mp hx),
    x1 := x1_ok (d := xd1) rfl rfl (xt xd1 (by simp [xdL]) (by decide +kernel) PySem.F.excBase_LookupError ?_ PySem.W.kxs_LookupError) sc_x1 rfl rfl rfl rfl (by decide) (fun _ _ _ _ _ _ _ _ _ _ => .of_eq rfl),
    x2 := x1_ok (d := xd2) rfl rfl (xt xd2 (by simp [xdL]) (by decide +kernel) PySem.F.excBase_LookupError ?_ PySem.W.kxs_LookupError) sc_x2 rfl rfl rfl rfl (by decide) (fun _ _ _ _ _ _ _ _ _ _ => .of_eq rfl),
    x3 := x1_ok (d := xd3) rfl rfl (xt xd3 (by simp [xdL]) (by decide +kernel) PySem.F.excBase_ValueError ?_ PySem.W.kxs_ValueError) sc_x3 rfl rfl rfl rfl (by decide) (fun _ _ _ _ _ _ _ _ _ _ => .of_eq rfl),
    x4 := x2_ok (d := xd4) rfl rfl (xt xd4 (by simp [xdL]) (by decide +kernel) PySem.F.excBase_ArithmeticError ?_ PySem.W.kxs_ArithmeticError) sc_x4 rfl rfl rfl rfl rfl (by decide) (by decide) (by decide) (fun _ _ _ _ _ _ _ _ _ _ _ => .of_eq rfl),
    x5 := y1, x5k := y2, x5s := of_decide_eq_true y3, x5t := of_decide_eq_true y4, exm := fun a b ha hb => He.exm_ok (fact (fa_exm ha hb)), xf := fun a f hx => ?_, sizes := c.t.tab 0, size4 := size (by simp [sizesL]), size3 := size (by simp [sizesL]), size2 := size (by simp [sizesL]), words := words_ok m9 }
  · exact PySem.F.store_LookupError
  · exact PySem.F.store_LookupError
  · exact PySem.F.store_ValueError
  · exact PySem.F.store_ArithmeticError
  · obtain ⟨h1, h2⟩ := He.ba (List.all_eq_true.mp m7 (a, f) (List.contains_iff_mem.mp hx))
    exact ⟨xfB_ok h1, He.eqO_ok h2⟩
end
end K56
namespace K56
open PySem PySem.Spec PyProof.Rows L2
theorem run (w : World) : HandSHeadRun.RunEq R qv hookY obY 8800 names w := PySem.W.byRow2 "special-get-raises" (P := fun w => HandSHeadRun.RunEq R qv hookY obY 8800 names w) run_f run_t w
theorem called {w : World} {s₁ : Shared} {mg mb : Str → Option Value} {fa a : Addr} {vs : List Value} {ns : List Int} {K : PySem.W.Frag} (X : K.In s₁.heap) (c : SaysY w s₁.heap K) (hns : s₁.heap.Ns mainGlobals mg) (hb : s₁.heap.Ns builtinsNs mb) (hbb : ∀ x : Str, x ≠ "__name__" → mb x = bootBuiltins x) (hlim : s₁.heap.NoLimit) (hg : s₁.gens = #[])
    (hbm : ∃ (bm : Addr) (ob : Obj), mg "__builtins__" = some (.ref bm) ∧ bm ≠ builtinsNs ∧ s₁.heap.get? bm = some ob ∧ ob.cls = .type "module" ∧ ob.dict = some builtinsNs ∧ ob.data = .plain) (hmg : mg ("law" : Str) = some (.ref fa))
    (ha : s₁.heap.get? a = some { cls := .type "list", data := .seq vs.toArray }) (hi : IntsAre vs ns) (hl : ns.length ≤ 63) :
    codeAny (model PG w) callerA (.call (.ref fa) ⟨[.ref a], []⟩) (fun r s' => r = .ok (.ret (.bool true)) ∧ OldK s₁.heap s'.heap ∧ s'.os = s₁.os ∧ AllBare s'.gens) s₁ := by
  have T : Tx w K mg := tx_of X hns c
  have e := hmg.symm.trans (He.glo_ok X hns (c.t.d.facts fa_law))
  cases e
  refine law_callG X hns hb hbb hlim hg c.empty c.out (PySem.W.codeHd_of_K X c.hd) hbm ha hi (Nat.le_trans hl (by decide)) (k := 23) ⟨rfl, by decide +kernel, by decide +kernel⟩ (fun base _ _ TB => ok_law T TB) fun H hH hS => ?_
  exact ⟨a, ns, rfl, hS, hl, fun p hp => by rw [List.mem_singleton.mp hp]; exact LamX.TabS.nil hH, fun _ => rfl⟩
end K56
open PySem PySem.W PySem.Calls PyProof.Rows
set_option maxHeartbeats 0 in
theorem PySem.Challenge.cw_pointrents_k56_whole_desks_through_deeds_holds : PySem.Challenge.rw_pointrents_k56_whole_desks_through_deeds.Holds := by
  w_on; o_law
  refine HandSHeadRun.head_any (r := OpenLaw.row PySem.Challenge.rw_pointrents_k56_whole_desks_through_deeds) (q := K56.qv) (H := K56.hookY) (ob := K56.obY) (M := 8800) (loose := K56.names) (d := HandSHeadRun.topDef (OpenLaw.row PySem.Challenge.rw_pointrents_k56_whole_desks_through_deeds).prog 91) (kwd := []) K56.obY_eq
    (by kernel_rfl) (fun s => by kernel_rfl) K56.run (by kernel_rfl) (by kernel_rfl) (by kernel_rfl) (by rfl) (by first | assumption | decide +kernel) (by decide +kernel) ⟨rfl, rfl, rfl, rfl, rfl, by decide +kernel⟩ ?hw ?hc
  case hw => w_witness2
  case hc =>
    refine Att.attach_callB (l := PySem.Challenge.rw_pointrents_k56_whole_desks_through_deeds) (n := 63) rfl (by kernel_rfl) fun w s₀ s₁ mg mb fa o pm cd doc a vs ns G Y ho hd hcd hmg hobj hints hlen hbits hg => ?_
    obtain ⟨K, KX, c⟩ := Y
    have hmg1 : mg ("law" : PySem.Str) = some (.ref fa) := by
      have e : (HandSHeadRun.topDef (OpenLaw.row PySem.Challenge.rw_pointrents_k56_whole_desks_through_deeds).prog 91).name = ("law" : PySem.Str) := by kernel_rfl
      rw [← e]
      exact hmg
    exact K56.called KX c G.T.g G.T.b G.T.builtins G.T.nolimit hg G.T.bmain hmg1 hobj hints hlen
