import PyProof.Rows.All
import Wide.All
import OpenK.AllK
import Wide.FinOn
import PyProof.EqAt
import PyProof.EqKinds
import PyProof.TupleCall
import KE.GoesMore
import KE.KDictKeyed
import KE.KRevSl
import HandS.ForMost
import HandS.DictTup
import HandS.Walk
import HandS.Style
import HandS.Defaults
import HandS.Ends
import HandS.HeadEnd
import HandS.IsInst
import HandS.Flow
import HandS.Sort
import HandS.WordsDict
import HandS.WordsExc
import HandS.Replace
import HandS.Head0
import HandS.Head1
import HandS.Head2
import HandS.HeadHook1
import HandS.HeadHook2
import PySem.Challenge.RW_walkshome_k73_whole_undo_restores_everyt
import PyProof.CollectIter
import PyProof.WalksMore
import PyProof.MakeMany
import PyProof.Rows.TupIter
import HandS.DictComp
import HandS.Conv
import HandS.SortInts
import HandS.ExcInit
import HandS.ExcField
import HandS.TryMany
import HandS.ExcOwn
import KE.KExcInit
import HandS.FStr
import HandS.OwnEq
import PyProof.ReprRoads
import HandS.RaiseMore
import PyProof.ReprLen
import PyProof.Ascii
import HandS.ListItems
import PyProof.P3Eq
set_option linter.all false
/-! K73Math: two foldings close the same paths. Plain Lean, no program in sight. -/
namespace K73

/-- the eight steps, as code points -/
def isStep (c : Nat) : Prop := c = 97 ∨ c = 65 ∨ c = 98 ∨ c = 66 ∨ c = 99 ∨ c = 67 ∨ c = 100 ∨ c = 68
/-- the inverse step: the other case -/
def inv (c : Nat) : Nat := if c < 96 then c + 32 else c - 32
theorem inv_inv {c : Nat} (h : isStep c) : inv (inv c) = c := by
  rcases h with rfl | rfl | rfl | rfl | rfl | rfl | rfl | rfl <;> rfl
theorem inv_step {c : Nat} (h : isStep c) : isStep (inv c) := by
  rcases h with rfl | rfl | rfl | rfl | rfl | rfl | rfl | rfl <;> simp [inv, isStep]
theorem inv_ne {c : Nat} (h : isStep c) : inv c ≠ c := by
  rcases h with rfl | rfl | rfl | rfl | rfl | rfl | rfl | rfl <;> simp [inv]
theorem inv_inj {c d : Nat} (hc : isStep c) (hd : isStep d) (e : inv c = inv d) : c = d := by
  rw [← inv_inv hc, ← inv_inv hd, e]
def Steps (w : List Nat) : Prop := ∀ c ∈ w, isStep c

/-- a graph: at most one target of each step -/
abbrev Gr := Nat → Nat → Option Nat
def InvCl (D : Gr) : Prop := ∀ u c v, isStep c → D u c = some v → D v (inv c) = some u
def run (D : Gr) : Nat → List Nat → Option Nat
  | u, [] => some u
  | u, c :: w => match D u c with
    | none => none
    | some v => run D v w
def ClosedAt (D : Gr) (r : Nat) (ps : List (List Nat)) : Prop := ∀ p ∈ ps, run D r p = some r

/-- w is closed wherever all of ps are -/
def Gen (ps : List (List Nat)) (w : List Nat) : Prop := ∀ (D : Gr) (r : Nat), InvCl D → ClosedAt D r ps → run D r w = some r

/-- T is a folded graph of ps -/
structure IsFold (T : Gr) (ps : List (List Nat)) : Prop where
  inv : InvCl T
  closed : ClosedAt T 0 ps
  init : ∀ (D : Gr) (r : Nat), InvCl D → ClosedAt D r ps → ∃ h : Nat → Nat, h 0 = r ∧ ∀ u c v, isStep c → T u c = some v → D (h u) c = some (h v)

theorem run_map {T D : Gr} {h : Nat → Nat} (hm : ∀ u c v, isStep c → T u c = some v → D (h u) c = some (h v)) : ∀ {w : List Nat} {u v : Nat}, Steps w → run T u w = some v → run D (h u) w = some (h v)
  | [], u, v, _, e => by
    have e2 : u = v := Option.some.inj e
    rw [e2]; rfl
  | c :: w, u, v, hs, e => by
    unfold run at e ⊢
    cases q : T u c with
    | none => rw [q] at e; cases e
    | some x =>
      rw [q] at e
      rw [hm u c x (hs c List.mem_cons_self) q]
      exact run_map hm (fun d hd => hs d (List.mem_cons_of_mem _ hd)) e
theorem IsFold.gen {T : Gr} {ps : List (List Nat)} (F : IsFold T ps) {w : List Nat} (hw : Steps w) : run T 0 w = some 0 ↔ Gen ps w := by
  constructor
  · intro e D r hD hc
    obtain ⟨h, h0, hm⟩ := F.init D r hD hc
    have q := run_map hm hw e
    rw [h0] at q
    exact q
  · intro g
    exact g T 0 F.inv F.closed

theorem run_append {D : Gr} : ∀ {p q : List Nat} {u : Nat}, run D u (p ++ q) = match run D u p with
    | none => none
    | some v => run D v q
  | [], q, u => rfl
  | c :: p, q, u => by
    show (match D u c with
      | none => none
      | some v => run D v (p ++ q)) = match (match D u c with
      | none => none
      | some v => run D v p) with
      | none => none
      | some v => run D v q
    cases D u c with
    | none => rfl
    | some v => exact run_append (p := p) (q := q) (u := v)

/-! ### reduction -/
def push (acc : List Nat) (c : Nat) : List Nat := if acc.getLast? = some (inv c) then acc.dropLast else acc ++ [c]
def red (w : List Nat) : List Nat := w.foldl push []
theorem push_mem {acc : List Nat} {c x : Nat} (h : x ∈ push acc c) : x ∈ acc ∨ x = c := by
  unfold push at h
  split at h
  · exact .inl (List.dropLast_subset _ h)
  · rcases List.mem_append.mp h with h | h
    · exact .inl h
    · exact .inr (List.mem_singleton.mp h)
theorem push_len (acc : List Nat) (c : Nat) : (push acc c).length ≤ acc.length + 1 := by
  unfold push
  split
  · rw [List.length_dropLast]; omega
  · simp
theorem foldl_push_mem : ∀ {w acc : List Nat} {x : Nat}, x ∈ w.foldl push acc → x ∈ acc ∨ x ∈ w
  | [], acc, x, h => .inl h
  | c :: w, acc, x, h => by
    rcases foldl_push_mem (w := w) (acc := push acc c) h with h | h
    · rcases push_mem h with h | h
      · exact .inl h
      · exact .inr (by rw [h]; exact List.mem_cons_self)
    · exact .inr (List.mem_cons_of_mem _ h)
theorem foldl_push_len : ∀ (w acc : List Nat), (w.foldl push acc).length ≤ acc.length + w.length
  | [], acc => Nat.le_refl _
  | c :: w, acc => by
    have h := foldl_push_len w (push acc c)
    have h2 := push_len acc c
    show ((c :: w).foldl push acc).length ≤ _
    rw [List.foldl_cons, List.length_cons]
    omega
theorem red_mem {w : List Nat} {x : Nat} (h : x ∈ red w) : x ∈ w := by
  rcases foldl_push_mem h with h | h
  · cases h
  · exact h
theorem red_len (w : List Nat) : (red w).length ≤ w.length := by
  have h := foldl_push_len w []
  rw [List.length_nil, Nat.zero_add] at h
  exact h
theorem red_steps {w : List Nat} (h : Steps w) : Steps (red w) := fun c hc => h c (red_mem hc)
theorem take_succ' {w : List Nat} {i c : Nat} (h : w[i]? = some c) : w.take (i + 1) = w.take i ++ [c] := by
  rw [List.take_add_one, h]; rfl
theorem red_take {w : List Nat} {i c : Nat} (h : w[i]? = some c) : (w.take (i + 1)).foldl push [] = push ((w.take i).foldl push []) c := by
  rw [take_succ' h, List.foldl_append]; rfl

/-! ### prefixes -/
theorem run_take_some {D : Gr} {p : List Nat} {u v : Nat} (e : run D u p = some v) (i : Nat) : ∃ x, run D u (p.take i) = some x := by
  have q : run D u (p.take i ++ p.drop i) = some v := by rw [List.take_append_drop]; exact e
  rw [run_append] at q
  cases r : run D u (p.take i) with
  | none => rw [r] at q; cases q
  | some x => exact ⟨x, rfl⟩
theorem run_take_next {D : Gr} {p : List Nat} {u x c : Nat} {i : Nat} (hc : p[i]? = some c) (e : run D u (p.take i) = some x) : run D u (p.take (i + 1)) = D x c := by
  rw [take_succ' hc, run_append, e]
  show (match D x c with
    | none => none
    | some v => some v) = D x c
  cases D x c <;> rfl

/-! ### the law's edges: (letter, source, target) -/
abbrev Ed := Nat × Nat × Nat
def CompE (D : Gr) (h : Nat → Nat) (L : List Ed) : Prop := ∀ e ∈ L, D (h e.2.1) e.1 = some (h e.2.2)
theorem CompE.append {D : Gr} {h : Nat → Nat} {L L2 : List Ed} : CompE D h (L ++ L2) ↔ CompE D h L ∧ CompE D h L2 := by
  constructor
  · intro c
    exact ⟨fun e he => c e (List.mem_append_left _ he), fun e he => c e (List.mem_append_right _ he)⟩
  · intro c e he
    rcases List.mem_append.mp he with he | he
    · exact c.1 e he
    · exact c.2 e he
/-- the edges of ps: what every graph tells of them -/
structure LEd (L : List Ed) (ps : List (List Nat)) : Prop where
  step : ∀ e ∈ L, isStep e.1
  snd : ∀ (D : Gr) (r : Nat), InvCl D → ClosedAt D r ps → ∃ h : Nat → Nat, h 0 = r ∧ CompE D h L
  cmp : ∀ (D : Gr) (h : Nat → Nat), InvCl D → CompE D h L → ClosedAt D (h 0) ps
def Under (L : List Ed) (n : Nat) : Prop := ∀ e ∈ L, e.2.1 < n ∧ e.2.2 < n

theorem LEd.nil : LEd [] [] := ⟨fun e he => (nomatch he), fun D r _ _ => ⟨fun _ => r, rfl, fun e he => (nomatch he)⟩, fun D h _ _ p hp => (nomatch hp)⟩
/-- inside a path: i steps are laid, from 0 to node src -/
structure LIn (L : List Ed) (ps : List (List Nat)) (p : List Nat) (i src free : Nat) : Prop where
  step : ∀ e ∈ L, isStep e.1
  under : Under L free
  one : 1 ≤ free
  src_lt : src < free
  snd : ∀ (D : Gr) (r : Nat), InvCl D → ClosedAt D r ps → run D r p = some r → ∃ h : Nat → Nat, h 0 = r ∧ CompE D h L ∧ run D r (p.take i) = some (h src)
  cmp : ∀ (D : Gr) (h : Nat → Nat), InvCl D → CompE D h L → ClosedAt D (h 0) ps ∧ run D (h 0) (p.take i) = some (h src)
theorem LIn.start {L : List Ed} {ps : List (List Nat)} {free : Nat} (g : LEd L ps) (hu : Under L free) (h1 : 1 ≤ free) (p : List Nat) : LIn L ps p 0 0 free := by
  refine ⟨g.step, hu, h1, h1, fun D r hD hc _ => ?_, fun D h hD hc => ⟨g.cmp D h hD hc, rfl⟩⟩
  obtain ⟨h, h0, c⟩ := g.snd D r hD hc
  exact ⟨h, h0, c, by rw [h0]; rfl⟩
/-- the edge that a step lays -/
def edgeOf (c src node : Nat) : Ed := if c < 96 then (inv c, node, src) else (c, src, node)
theorem edgeOf_comp {D : Gr} {h : Nat → Nat} {c src node : Nat} (hD : InvCl D) (hc : isStep c) : CompE D h [edgeOf c src node] ↔ D (h src) c = some (h node) := by
  have key : ∀ e : Ed, CompE D h [e] ↔ D (h e.2.1) e.1 = some (h e.2.2) := fun e => by
    constructor
    · intro q; exact q e List.mem_cons_self
    · intro q x hx
      rw [List.mem_singleton.mp hx]; exact q
  rw [key]
  unfold edgeOf
  by_cases lt : c < 96
  · rw [if_pos lt]
    constructor
    · intro q
      have z := hD _ _ _ (inv_step hc) q
      rw [inv_inv hc] at z
      exact z
    · intro q; exact hD _ _ _ hc q
  · rw [if_neg lt]
theorem edgeOf_step {c src node : Nat} (hc : isStep c) : isStep (edgeOf c src node).1 := by
  unfold edgeOf
  split
  · exact inv_step hc
  · exact hc
theorem edgeOf_under {c src node n : Nat} (h1 : src < n) (h2 : node < n) : (edgeOf c src node).2.1 < n ∧ (edgeOf c src node).2.2 < n := by
  unfold edgeOf
  split
  · exact ⟨h2, h1⟩
  · exact ⟨h1, h2⟩
theorem LIn.next {L : List Ed} {ps : List (List Nat)} {p : List Nat} {i src free c : Nat} (g : LIn L ps p i src free) (hp : p[i]? = some c) (hc : isStep c) :
    let last := i + 1 = p.length
    LIn (L ++ [edgeOf c src (if last then 0 else free)]) ps p (i + 1) (if last then 0 else free) (if last then free else free + 1) := by
  intro last
  by_cases hl : last
  · simp only [if_pos hl]
    refine ⟨fun e he => ?_, fun e he => ?_, g.one, g.one, fun D r hD hcl hr => ?_, fun D h hD hcm => ?_⟩
    · rcases List.mem_append.mp he with he | he
      · exact g.step e he
      · rw [List.mem_singleton.mp he]; exact edgeOf_step hc
    · rcases List.mem_append.mp he with he | he
      · exact g.under e he
      · rw [List.mem_singleton.mp he]; exact edgeOf_under g.src_lt g.one
    · obtain ⟨h, h0, cm, rn⟩ := g.snd D r hD hcl hr
      have q := run_take_next hp rn
      have full : p.take (i + 1) = p := by rw [show i + 1 = p.length from hl, List.take_length]
      rw [full, hr] at q
      refine ⟨h, h0, CompE.append.mpr ⟨cm, (edgeOf_comp hD hc).mpr ?_⟩, ?_⟩
      · rw [h0]; exact q.symm
      · rw [full, hr, h0]
    · obtain ⟨c1, c2⟩ := CompE.append.mp hcm
      obtain ⟨k1, k2⟩ := g.cmp D h hD c1
      refine ⟨k1, ?_⟩
      rw [run_take_next hp k2]
      exact (edgeOf_comp hD hc).mp c2
  · simp only [if_neg hl]
    refine ⟨fun e he => ?_, fun e he => ?_, Nat.le_succ_of_le g.one, Nat.lt_succ_self _, fun D r hD hcl hr => ?_, fun D h hD hcm => ?_⟩
    · rcases List.mem_append.mp he with he | he
      · exact g.step e he
      · rw [List.mem_singleton.mp he]; exact edgeOf_step hc
    · rcases List.mem_append.mp he with he | he
      · have z := g.under e he
        exact ⟨Nat.lt_succ_of_lt z.1, Nat.lt_succ_of_lt z.2⟩
      · rw [List.mem_singleton.mp he]; exact edgeOf_under (Nat.lt_succ_of_lt g.src_lt) (Nat.lt_succ_self _)
    · obtain ⟨h, h0, cm, rn⟩ := g.snd D r hD hcl hr
      have q := run_take_next hp rn
      obtain ⟨x, hx⟩ := run_take_some hr (i + 1)
      rw [hx] at q
      have old : ∀ n, n < free → (fun n => if n = free then x else h n) n = h n := fun n hn => if_neg (Nat.ne_of_lt hn)
      have new : (fun n => if n = free then x else h n) free = x := if_pos rfl
      refine ⟨fun n => if n = free then x else h n, ?_, CompE.append.mpr ⟨fun e he => ?_, (edgeOf_comp hD hc).mpr ?_⟩, ?_⟩
      · rw [old 0 g.one]; exact h0
      · have z := g.under e he
        rw [old _ z.1, old _ z.2]
        exact cm e he
      · show D ((fun n => if n = free then x else h n) src) c = some ((fun n => if n = free then x else h n) free)
        rw [old src g.src_lt, new]; exact q.symm
      · rw [hx, new]
    · obtain ⟨c1, c2⟩ := CompE.append.mp hcm
      obtain ⟨k1, k2⟩ := g.cmp D h hD c1
      refine ⟨k1, ?_⟩
      rw [run_take_next hp k2]
      exact (edgeOf_comp hD hc).mp c2
/-- a path is laid whole -/
theorem LIn.done {L : List Ed} {ps : List (List Nat)} {p : List Nat} {src free : Nat} (g : LIn L ps p p.length src free) (h0 : src = 0) : LEd L (ps ++ [p]) := by
  refine ⟨g.step, fun D r hD hc => ?_, fun D h hD hc => ?_⟩
  · obtain ⟨h, q, c, _⟩ := g.snd D r hD (fun x hx => hc x (List.mem_append_left _ hx)) (hc p (List.mem_append_right _ (List.mem_singleton.mpr rfl)))
    exact ⟨h, q, c⟩
  · obtain ⟨k1, k2⟩ := g.cmp D h hD hc
    intro x hx
    rcases List.mem_append.mp hx with hx | hx
    · exact k1 x hx
    · rw [List.mem_singleton.mp hx]
      rw [List.take_length, h0] at k2
      exact k2

/-! ### the law's look for a conflict -/
/-- T holds what the edges L say (and nothing else) -/
structure TOf (T : Gr) (L : List Ed) : Prop where
  has : ∀ e ∈ L, T e.2.1 e.1 = some e.2.2 ∧ T e.2.2 (inv e.1) = some e.2.1
  only : ∀ x d y, T x d = some y → (d, x, y) ∈ L ∨ ∃ c, d = inv c ∧ (c, y, x) ∈ L
def setG (T : Gr) (u c v : Nat) : Gr := fun x d => if x = u ∧ d = c then some v else T x d
theorem setG_same {T : Gr} {u c v : Nat} : setG T u c v u c = some v := if_pos ⟨rfl, rfl⟩
theorem setG_ne {T : Gr} {u c v x d : Nat} (h : ¬ (x = u ∧ d = c)) : setG T u c v x d = T x d := if_neg h
theorem TOf.nil : TOf (fun _ _ => none) [] := ⟨fun e he => (nomatch he), fun x d y h => (nomatch h)⟩
theorem TOf.comp {T : Gr} {L : List Ed} (t : TOf T L) {D : Gr} {h : Nat → Nat} (hs : ∀ e ∈ L, isStep e.1) (hD : InvCl D) (hc : CompE D h L) {x d y : Nat} (e : T x d = some y) : D (h x) d = some (h y) := by
  rcases t.only x d y e with q | ⟨c, rfl, q⟩
  · exact hc _ q
  · exact hD _ _ _ (hs _ q) (hc _ q)
/-- an edge without a conflict -/
theorem TOf.snoc {T : Gr} {L : List Ed} (t : TOf T L) {c u v : Nat} (h1 : T u c = none ∨ T u c = some v) (h2 : setG T u c v v (inv c) = none ∨ setG T u c v v (inv c) = some u) :
    TOf (setG (setG T u c v) v (inv c) u) (L ++ [(c, u, v)]) := by
  have k1 : ∀ x d y, T x d = some y → setG T u c v x d = some y := fun x d y e => by
    by_cases z : x = u ∧ d = c
    · obtain ⟨rfl, rfl⟩ := z
      rw [setG_same]
      rcases h1 with h1 | h1
      · rw [h1] at e; cases e
      · rw [h1] at e; exact e
    · rw [setG_ne z]; exact e
  have k2 : ∀ x d y, setG T u c v x d = some y → setG (setG T u c v) v (inv c) u x d = some y := fun x d y e => by
    by_cases z : x = v ∧ d = inv c
    · obtain ⟨rfl, rfl⟩ := z
      rw [setG_same]
      rcases h2 with h2 | h2
      · rw [h2] at e; cases e
      · rw [h2] at e; exact e
    · rw [setG_ne z]; exact e
  refine ⟨fun e he => ?_, fun x d y e => ?_⟩
  · rcases List.mem_append.mp he with he | he
    · exact ⟨k2 _ _ _ (k1 _ _ _ (t.has e he).1), k2 _ _ _ (k1 _ _ _ (t.has e he).2)⟩
    · rw [List.mem_singleton.mp he]
      exact ⟨k2 _ _ _ setG_same, setG_same⟩
  · by_cases z : x = v ∧ d = inv c
    · obtain ⟨rfl, rfl⟩ := z
      rw [setG_same] at e
      exact .inr ⟨c, rfl, List.mem_append_right _ (by rw [← Option.some.inj e]; exact List.mem_singleton.mpr rfl)⟩
    · rw [setG_ne z] at e
      by_cases z : x = u ∧ d = c
      · obtain ⟨rfl, rfl⟩ := z
        rw [setG_same] at e
        exact .inl (List.mem_append_right _ (by rw [← Option.some.inj e]; exact List.mem_singleton.mpr rfl))
      · rw [setG_ne z] at e
        rcases t.only x d y e with q | ⟨c', q1, q2⟩
        · exact .inl (List.mem_append_left _ q)
        · exact .inr ⟨c', q1, List.mem_append_left _ q2⟩
/-- no conflict at all: a folded graph -/
theorem TOf.fold {T : Gr} {L : List Ed} {ps : List (List Nat)} (t : TOf T L) (g : LEd L ps) : IsFold T ps := by
  have hi : InvCl T := fun u c v hc e => by
    rcases t.only u c v e with q | ⟨d, rfl, q⟩
    · exact (t.has _ q).2
    · rw [inv_inv (g.step _ q)]; exact (t.has _ q).1
  refine ⟨hi, g.cmp T (fun n => n) hi fun e he => (t.has e he).1, fun D r hD hc => ?_⟩
  obtain ⟨h, h0, c⟩ := g.snd D r hD hc
  exact ⟨h, h0, fun u d v _ e => t.comp g.step hD c e⟩

/-! ### the law's merge -/
def occ (L : List Ed) (n : Nat) : Bool := L.any fun e => e.2.1 == n || e.2.2 == n
theorem occ_iff {L : List Ed} {n : Nat} : occ L n = true ↔ ∃ e ∈ L, e.2.1 = n ∨ e.2.2 = n := by
  unfold occ
  rw [List.any_eq_true]
  constructor
  · rintro ⟨e, he, q⟩
    refine ⟨e, he, ?_⟩
    simpa using q
  · rintro ⟨e, he, q⟩
    refine ⟨e, he, ?_⟩
    simpa using q
def mv (a b n : Nat) : Nat := if n = b then a else n
def mvE (a b : Nat) (e : Ed) : Ed := (e.1, mv a b e.2.1, mv a b e.2.2)
theorem LEd.merge {L : List Ed} {ps : List (List Nat)} {a b : Nat} (g : LEd L ps) (hab : a < b) (hq : ∀ (D : Gr) (h : Nat → Nat), InvCl D → CompE D h L → h a = h b) : LEd (L.map (mvE a b)) ps := by
  refine ⟨fun e he => ?_, fun D r hD hc => ?_, fun D h hD hc => ?_⟩
  · obtain ⟨x, hx, rfl⟩ := List.mem_map.mp he
    exact g.step x hx
  · obtain ⟨h, h0, c⟩ := g.snd D r hD hc
    have e := hq D h hD c
    have k : ∀ n, h (mv a b n) = h n := fun n => by
      unfold mv
      split
      · rename_i z; rw [z, e]
      · rfl
    refine ⟨h, h0, fun x hx => ?_⟩
    obtain ⟨y, hy, rfl⟩ := List.mem_map.mp hx
    show D (h (mv a b y.2.1)) y.1 = some (h (mv a b y.2.2))
    rw [k, k]
    exact c y hy
  · have c2 : CompE D (fun n => h (mv a b n)) L := fun y hy => hc _ (List.mem_map.mpr ⟨y, hy, rfl⟩)
    have q := g.cmp D _ hD c2
    have z : mv a b 0 = 0 := if_neg (by omega)
    rw [z] at q
    exact q
theorem Under.merge {L : List Ed} {n a b : Nat} (hu : Under L n) (ha : a < n) : Under (L.map (mvE a b)) n := fun e he => by
  obtain ⟨x, hx, rfl⟩ := List.mem_map.mp he
  have z := hu x hx
  have k : ∀ m, m < n → mv a b m < n := fun m hm => by
    unfold mv
    split
    · exact ha
    · exact hm
  exact ⟨k _ z.1, k _ z.2⟩
theorem filter_lt {α : Type} {p q : α → Bool} : ∀ {l : List α} {x : α}, (∀ y, p y = true → q y = true) → x ∈ l → q x = true → p x = false → (l.filter p).length < (l.filter q).length
  | [], x, _, hx, _, _ => by cases hx
  | y :: l, x, hpq, hx, h1, h2 => by
    have le : ∀ l : List α, (l.filter p).length ≤ (l.filter q).length := fun l => by
      induction l with
      | nil => exact Nat.le_refl _
      | cons z l ih =>
        cases pz : p z with
        | true => rw [List.filter_cons_of_pos pz, List.filter_cons_of_pos (hpq z pz)]; exact Nat.succ_le_succ ih
        | false =>
          rw [List.filter_cons_of_neg (by rw [pz]; exact Bool.false_ne_true)]
          cases qz : q z with
          | true => rw [List.filter_cons_of_pos qz]; exact Nat.le_succ_of_le ih
          | false => rw [List.filter_cons_of_neg (by rw [qz]; exact Bool.false_ne_true)]; exact ih
    rcases List.mem_cons.mp hx with e | hx
    · subst e
      rw [List.filter_cons_of_pos h1, List.filter_cons_of_neg (by rw [h2]; exact Bool.false_ne_true)]
      exact Nat.lt_succ_of_le (le l)
    · have ih := filter_lt (l := l) hpq hx h1 h2
      cases py : p y with
      | true => rw [List.filter_cons_of_pos py, List.filter_cons_of_pos (hpq y py)]; exact Nat.succ_lt_succ ih
      | false =>
        rw [List.filter_cons_of_neg (by rw [py]; exact Bool.false_ne_true)]
        cases qy : q y with
        | true => rw [List.filter_cons_of_pos qy]; exact Nat.lt_succ_of_lt ih
        | false => rw [List.filter_cons_of_neg (by rw [qy]; exact Bool.false_ne_true)]; exact ih
def cnt (B : Nat) (L : List Ed) : Nat := ((List.range B).filter (occ L)).length
theorem cnt_merge {L : List Ed} {B a b : Nat} (hab : a ≠ b) (ha : occ L a = true) (hb : occ L b = true) (hB : b < B) : cnt B (L.map (mvE a b)) < cnt B L := by
  have key : ∀ n, occ (L.map (mvE a b)) n = true → occ L n = true ∧ n ≠ b := fun n hn => by
    obtain ⟨e, he, q⟩ := occ_iff.mp hn
    obtain ⟨x, hx, rfl⟩ := List.mem_map.mp he
    have one : ∀ m, (m = x.2.1 ∨ m = x.2.2) → mv a b m = n → occ L n = true ∧ n ≠ b := fun m hm e => by
      unfold mv at e
      by_cases z : m = b
      · rw [if_pos z] at e
        rw [← e]
        exact ⟨ha, hab⟩
      · rw [if_neg z] at e
        rw [← e]
        refine ⟨occ_iff.mpr ⟨x, hx, ?_⟩, z⟩
        rcases hm with hm | hm
        · exact .inl hm.symm
        · exact .inr hm.symm
    rcases q with q | q
    · exact one _ (.inl rfl) q
    · exact one _ (.inr rfl) q
  refine filter_lt (x := b) (fun y hy => (key y hy).1) (List.mem_range.mpr hB) hb ?_
  cases z : occ (L.map (mvE a b)) b with
  | false => rfl
  | true => exact absurd rfl (key b z).2
end K73
set_option linter.all false
/-! K73Math2: the program's folding. E: the targets, M: merged into, P: pending pairs, nx: the next node. -/
namespace K73
abbrev Mg := Nat → Option Nat
abbrev Pd := List (Nat × Nat)
def CompS (D : Gr) (h : Nat → Nat) (E : Gr) (M : Mg) (P : Pd) : Prop :=
  (∀ u c v, E u c = some v → D (h u) c = some (h v)) ∧ (∀ r k, M r = some k → h r = h k) ∧ ∀ p ∈ P, h p.1 = h p.2
def EInv (E : Gr) : Prop := ∀ u c v, E u c = some v → isStep c ∧ E v (inv c) = some u
structure LFI (E : Gr) (M : Mg) (P : Pd) (nx : Nat) : Prop where
  einv : EInv E
  live : ∀ u c v, E u c = some v → (M u = none ∧ u < nx) ∧ (M v = none ∧ v < nx)
  down : ∀ r k, M r = some k → k < r ∧ r < nx
  pend : ∀ p ∈ P, p.1 < nx ∧ p.2 < nx
  one : 1 ≤ nx
theorem LFI.root {E : Gr} {M : Mg} {P : Pd} {nx : Nat} (g : LFI E M P nx) : M 0 = none := by
  cases e : M 0 with
  | none => rfl
  | some k => have := (g.down 0 k e).1; omega
theorem LFI.fresh {E : Gr} {M : Mg} {P : Pd} {nx n : Nat} (g : LFI E M P nx) (h : nx ≤ n) : M n = none := by
  cases e : M n with
  | none => rfl
  | some k => have := (g.down n k e).2; omega
/-- the paths ps are what the state stands for -/
structure LFS (E : Gr) (M : Mg) (P : Pd) (ps : List (List Nat)) : Prop where
  snd : ∀ (D : Gr) (r : Nat), InvCl D → ClosedAt D r ps → ∃ h : Nat → Nat, h 0 = r ∧ CompS D h E M P
  cmp : ∀ (D : Gr) (h : Nat → Nat), InvCl D → CompS D h E M P → ClosedAt D (h 0) ps
theorem LFS.imp {E E' : Gr} {M M' : Mg} {P P' : Pd} {ps : List (List Nat)} (g : LFS E M P ps) (k : ∀ (D : Gr) (h : Nat → Nat), InvCl D → (CompS D h E M P ↔ CompS D h E' M' P')) : LFS E' M' P' ps := by
  refine ⟨fun D r hD hc => ?_, fun D h hD hc => g.cmp D h hD ((k D h hD).mpr hc)⟩
  obtain ⟨h, h0, c⟩ := g.snd D r hD hc
  exact ⟨h, h0, (k D h hD).mp c⟩
theorem LFI.nil : LFI (fun _ _ => none) (fun _ => none) [] 1 := ⟨fun _ _ _ e => (nomatch e), fun _ _ _ e => (nomatch e), fun _ _ e => (nomatch e), fun _ e => (nomatch e), Nat.le_refl _⟩
theorem LFS.nil : LFS (fun _ _ => none) (fun _ => none) [] [] := ⟨fun D r _ _ => ⟨fun _ => r, rfl, fun _ _ _ e => (nomatch e), fun _ _ e => (nomatch e), fun _ e => (nomatch e)⟩, fun D h _ _ p hp => (nomatch hp)⟩

/-! ### one more edge -/
theorem CompS.pend {D : Gr} {h : Nat → Nat} {E : Gr} {M : Mg} {P : Pd} {a b : Nat} : CompS D h E M (P ++ [(a, b)]) ↔ CompS D h E M P ∧ h a = h b := by
  constructor
  · rintro ⟨c1, c2, c3⟩
    exact ⟨⟨c1, c2, fun p hp => c3 p (List.mem_append_left _ hp)⟩, c3 (a, b) (List.mem_append_right _ (List.mem_singleton.mpr rfl))⟩
  · rintro ⟨⟨c1, c2, c3⟩, e⟩
    refine ⟨c1, c2, fun p hp => ?_⟩
    rcases List.mem_append.mp hp with hp | hp
    · exact c3 p hp
    · rw [List.mem_singleton.mp hp]; exact e
/-- what an edge adds to a state -/
structure Adds (E : Gr) (M : Mg) (P : Pd) (nx u c v : Nat) (E' : Gr) (P' : Pd) : Prop where
  lfi : LFI E' M P' nx
  comp : ∀ (D : Gr) (h : Nat → Nat), InvCl D → (CompS D h E' M P' ↔ CompS D h E M P ∧ D (h u) c = some (h v))
theorem adds_known {E : Gr} {M : Mg} {P : Pd} {nx u c v n : Nat} (g : LFI E M P nx) (hc : isStep c) (hv : v < nx) (e : E u c = some n) : Adds E M P nx u c v E (P ++ [(n, v)]) := by
  refine ⟨⟨g.einv, g.live, g.down, fun p hp => ?_, g.one⟩, fun D h hD => ?_⟩
  · rcases List.mem_append.mp hp with hp | hp
    · exact g.pend p hp
    · rw [List.mem_singleton.mp hp]; exact ⟨(g.live _ _ _ e).2.2, hv⟩
  · rw [CompS.pend]
    constructor
    · rintro ⟨c1, c2⟩
      exact ⟨c1, by rw [← c2]; exact c1.1 _ _ _ e⟩
    · rintro ⟨c1, c2⟩
      refine ⟨c1, ?_⟩
      have z := c1.1 _ _ _ e
      rw [c2] at z
      exact (Option.some.inj z).symm
theorem adds_back {E : Gr} {M : Mg} {P : Pd} {nx u c v n : Nat} (g : LFI E M P nx) (hc : isStep c) (hu : u < nx) (e : E v (inv c) = some n) : Adds E M P nx u c v E (P ++ [(n, u)]) := by
  refine ⟨⟨g.einv, g.live, g.down, fun p hp => ?_, g.one⟩, fun D h hD => ?_⟩
  · rcases List.mem_append.mp hp with hp | hp
    · exact g.pend p hp
    · rw [List.mem_singleton.mp hp]; exact ⟨(g.live _ _ _ e).2.2, hu⟩
  · rw [CompS.pend]
    have e2 : E n c = some v := by
      have q := (g.einv _ _ _ e).2
      rw [inv_inv hc] at q
      exact q
    constructor
    · rintro ⟨c1, c2⟩
      exact ⟨c1, by rw [← c2]; exact c1.1 _ _ _ e2⟩
    · rintro ⟨c1, c2⟩
      refine ⟨c1, ?_⟩
      have z := hD _ _ _ hc c2
      rw [c1.1 _ _ _ e] at z
      exact Option.some.inj z
theorem adds_new {E : Gr} {M : Mg} {P : Pd} {nx u c v : Nat} (g : LFI E M P nx) (hc : isStep c) (hu : u < nx) (hv : v < nx) (lu : M u = none) (lv : M v = none) (e1 : E u c = none) (e2 : E v (inv c) = none) :
    Adds E M P nx u c v (setG (setG E u c v) v (inv c) u) P := by
  have ne : ∀ {x d}, x = v ∧ d = inv c → ¬ (x = u ∧ d = c) := fun {x d} a b => inv_ne hc (a.2.symm.trans b.2)
  have at1 : setG (setG E u c v) v (inv c) u u c = some v := by
    by_cases z : u = v ∧ c = inv c
    · exact absurd z.2.symm (inv_ne hc)
    · rw [setG_ne z, setG_same]
  have cases3 : ∀ {x d y}, setG (setG E u c v) v (inv c) u x d = some y → (x = v ∧ d = inv c ∧ y = u) ∨ (x = u ∧ d = c ∧ y = v) ∨ E x d = some y := fun {x d y} e => by
    by_cases z : x = v ∧ d = inv c
    · obtain ⟨rfl, rfl⟩ := z
      rw [setG_same] at e
      exact .inl ⟨rfl, rfl, (Option.some.inj e).symm⟩
    · rw [setG_ne z] at e
      by_cases z2 : x = u ∧ d = c
      · obtain ⟨rfl, rfl⟩ := z2
        rw [setG_same] at e
        exact .inr (.inl ⟨rfl, rfl, (Option.some.inj e).symm⟩)
      · rw [setG_ne z2] at e
        exact .inr (.inr e)
  have keep : ∀ {x d y}, E x d = some y → setG (setG E u c v) v (inv c) u x d = some y := fun {x d y} e => by
    have z1 : ¬ (x = v ∧ d = inv c) := fun z => by rw [z.1, z.2, e2] at e; cases e
    have z2 : ¬ (x = u ∧ d = c) := fun z => by rw [z.1, z.2, e1] at e; cases e
    rw [setG_ne z1, setG_ne z2]; exact e
  refine ⟨⟨fun x d y e => ?_, fun x d y e => ?_, g.down, g.pend, g.one⟩, fun D h hD => ⟨fun k => ?_, fun k => ?_⟩⟩
  · rcases cases3 e with ⟨rfl, rfl, rfl⟩ | ⟨rfl, rfl, rfl⟩ | e
    · exact ⟨inv_step hc, by rw [inv_inv hc]; exact at1⟩
    · exact ⟨hc, setG_same⟩
    · exact ⟨(g.einv _ _ _ e).1, keep (g.einv _ _ _ e).2⟩
  · rcases cases3 e with ⟨rfl, rfl, rfl⟩ | ⟨rfl, rfl, rfl⟩ | e
    · exact ⟨⟨lv, hv⟩, lu, hu⟩
    · exact ⟨⟨lu, hu⟩, lv, hv⟩
    · exact g.live _ _ _ e
  · exact ⟨⟨fun x d y e => k.1 _ _ _ (keep e), k.2.1, k.2.2⟩, k.1 _ _ _ at1⟩
  · obtain ⟨k, q⟩ := k
    refine ⟨fun x d y e => ?_, k.2.1, k.2.2⟩
    rcases cases3 e with ⟨rfl, rfl, rfl⟩ | ⟨rfl, rfl, rfl⟩ | e
    · exact hD _ _ _ hc q
    · exact q
    · exact k.1 _ _ _ e

/-! ### an edge taken out -/
def delG (E : Gr) (u c t : Nat) : Gr := fun x d => if (x = u ∧ d = c) ∨ (x = t ∧ d = inv c) then none else E x d
theorem delG_in {E : Gr} {u c t x d y : Nat} (e : delG E u c t x d = some y) : ¬ ((x = u ∧ d = c) ∨ (x = t ∧ d = inv c)) ∧ E x d = some y := by
  unfold delG at e
  by_cases z : (x = u ∧ d = c) ∨ (x = t ∧ d = inv c)
  · rw [if_pos z] at e; cases e
  · rw [if_neg z] at e; exact ⟨z, e⟩
theorem delG_out {E : Gr} {u c t x d : Nat} (z : ¬ ((x = u ∧ d = c) ∨ (x = t ∧ d = inv c))) : delG E u c t x d = E x d := if_neg z
/-! ### the merge of `removed` into `kept`: some steps are done -/
structure Mrg (E0 : Gr) (M : Mg) (P0 : Pd) (nx kept rem : Nat) (done : List Nat) (E : Gr) (P : Pd) : Prop where
  einv : EInv E
  live : ∀ u c v, E u c = some v → ((M u = none ∨ u = rem) ∧ u < nx) ∧ ((M v = none ∨ v = rem) ∧ v < nx)
  pend : ∀ p ∈ P, p.1 < nx ∧ p.2 < nx
  gone : ∀ c ∈ done, E rem c = none
  comp : ∀ (D : Gr) (h : Nat → Nat), InvCl D → (CompS D h E M P ↔ CompS D h E0 M P0)
def setM (M : Mg) (r k : Nat) : Mg := fun x => if x = r then some k else M x
theorem Mrg.start {E : Gr} {M : Mg} {P : Pd} {nx kept rem : Nat} (g : LFI E M P nx) (hr : M rem = none) : Mrg E (setM M rem kept) P nx kept rem [] E P := by
  have old : ∀ x, M x = none → setM M rem kept x = none ∨ x = rem := fun x hx => by
    by_cases z : x = rem
    · exact .inr z
    · exact .inl (by unfold setM; rw [if_neg z]; exact hx)
  exact ⟨g.einv, fun u c v e => ⟨⟨old _ (g.live _ _ _ e).1.1, (g.live _ _ _ e).1.2⟩, old _ (g.live _ _ _ e).2.1, (g.live _ _ _ e).2.2⟩, g.pend, fun c hc => (nomatch hc), fun D h hD => Iff.rfl⟩
theorem Mrg.skip {E0 : Gr} {M : Mg} {P0 : Pd} {nx kept rem c : Nat} {done : List Nat} {E : Gr} {P : Pd} (m : Mrg E0 M P0 nx kept rem done E P) (e : E rem c = none) : Mrg E0 M P0 nx kept rem (done ++ [c]) E P :=
  ⟨m.einv, m.live, m.pend, fun d hd => by
    rcases List.mem_append.mp hd with hd | hd
    · exact m.gone d hd
    · rw [List.mem_singleton.mp hd]; exact e, m.comp⟩
/-- the state without the edge (rem, c, t): of the shape that `Adds` wants, but for rem -/
theorem Mrg.take {E0 : Gr} {M : Mg} {P0 : Pd} {nx kept rem c t : Nat} {done : List Nat} {E : Gr} {P : Pd} (m : Mrg E0 M P0 nx kept rem done E P) (e : E rem c = some t) :
    EInv (delG E rem c t) ∧ (∀ u d v, delG E rem c t u d = some v → ((M u = none ∨ u = rem) ∧ u < nx) ∧ ((M v = none ∨ v = rem) ∧ v < nx)) ∧
    (∀ d, d = c ∨ d ∈ done → delG E rem c t rem d = none) ∧
    ∀ (D : Gr) (h : Nat → Nat), InvCl D → (CompS D h E M P ↔ CompS D h (delG E rem c t) M P ∧ D (h rem) c = some (h t)) := by
  obtain ⟨hc, eb⟩ := m.einv _ _ _ e
  refine ⟨fun x d y q => ?_, fun x d y q => m.live _ _ _ (delG_in q).2, fun d hd => ?_, fun D h hD => ⟨fun k => ⟨⟨fun x d y q => k.1 _ _ _ (delG_in q).2, k.2.1, k.2.2⟩, k.1 _ _ _ e⟩, fun k => ⟨fun x d y q => ?_, k.1.2.1, k.1.2.2⟩⟩⟩
  · obtain ⟨z, q1⟩ := delG_in q
    obtain ⟨hd, q2⟩ := m.einv _ _ _ q1
    refine ⟨hd, ?_⟩
    rw [delG_out ?_]
    · exact q2
    · rintro (⟨h1, h2⟩ | ⟨h1, h2⟩)
      · apply z
        rw [h1, h2, e] at q2
        right
        exact ⟨(Option.some.inj q2).symm, by rw [← h2, inv_inv hd]⟩
      · apply z
        have h3 : d = c := inv_inj hd hc h2
        rw [h1, h2, eb] at q2
        left
        exact ⟨(Option.some.inj q2).symm, h3⟩
  · by_cases z : (rem = rem ∧ d = c) ∨ (rem = t ∧ d = inv c)
    · unfold delG; rw [if_pos z]
    · rw [delG_out z]
      rcases hd with hd | hd
      · exact absurd (.inl ⟨rfl, hd⟩) z
      · exact m.gone d hd
  · by_cases z : (x = rem ∧ d = c) ∨ (x = t ∧ d = inv c)
    · rcases z with ⟨rfl, rfl⟩ | ⟨rfl, rfl⟩
      · rw [e] at q
        rw [← Option.some.inj q]; exact k.2
      · rw [eb] at q
        rw [← Option.some.inj q]
        exact hD _ _ _ hc k.2
    · exact k.1.1 _ _ _ (by rw [delG_out z]; exact q)
/-- the edge (kept, c, t') stands in its place -/
theorem Mrg.next {E0 : Gr} {M : Mg} {P0 : Pd} {nx kept rem c t : Nat} {done : List Nat} {E : Gr} {P : Pd} (m : Mrg E0 M P0 nx kept rem done E P) (e : E rem c = some t) (hM : M rem = some kept) {E' : Gr} {P' : Pd}
    (inv' : EInv E') (live' : ∀ u d v, E' u d = some v → ((M u = none ∨ u = rem) ∧ u < nx) ∧ ((M v = none ∨ v = rem) ∧ v < nx)) (pend' : ∀ p ∈ P', p.1 < nx ∧ p.2 < nx) (gone' : ∀ d, delG E rem c t rem d = none → E' rem d = none)
    (comp' : ∀ (D : Gr) (h : Nat → Nat), InvCl D → (CompS D h E' M P' ↔ CompS D h (delG E rem c t) M P ∧ D (h kept) c = some (h (if t = rem then kept else t)))) : Mrg E0 M P0 nx kept rem (done ++ [c]) E' P' := by
  obtain ⟨_, _, k3, k4⟩ := m.take e
  refine ⟨inv', live', pend', fun d hd => ?_, fun D h hD => ?_⟩
  · refine gone' d (k3 d ?_)
    rcases List.mem_append.mp hd with hd | hd
    · exact .inr hd
    · exact .inl (List.mem_singleton.mp hd)
  · rw [comp' D h hD, ← m.comp D h hD, k4 D h hD]
    constructor
    · rintro ⟨a, b⟩
      have e1 := a.2.1 rem kept hM
      refine ⟨a, ?_⟩
      rw [e1, b]
      by_cases z : t = rem
      · rw [if_pos z, z, e1]
      · rw [if_neg z]
    · rintro ⟨a, b⟩
      have e1 := a.2.1 rem kept hM
      refine ⟨a, ?_⟩
      rw [← e1, b]
      by_cases z : t = rem
      · rw [if_pos z, z, e1]
      · rw [if_neg z]
/-- all eight steps are done -/
theorem Mrg.fin {E0 : Gr} {M : Mg} {P0 : Pd} {nx kept rem : Nat} {done : List Nat} {E : Gr} {P : Pd} (m : Mrg E0 M P0 nx kept rem done E P) (hd : ∀ c, isStep c → c ∈ done) (down : ∀ r k, M r = some k → k < r ∧ r < nx) (one : 1 ≤ nx) : LFI E M P nx := by
  have no : ∀ c v, E rem c ≠ some v := fun c v e => by
    rw [m.gone c (hd c (m.einv _ _ _ e).1)] at e; cases e
  refine ⟨m.einv, fun u c v e => ?_, down, m.pend, one⟩
  obtain ⟨⟨h1, h2⟩, h3, h4⟩ := m.live _ _ _ e
  refine ⟨⟨?_, h2⟩, ?_, h4⟩
  · rcases h1 with h1 | h1
    · exact h1
    · rw [h1] at e; exact absurd e (no _ _)
  · rcases h3 with h3 | h3
    · exact h3
    · have q := (m.einv _ _ _ e).2
      rw [h3] at q; exact absurd q (no _ _)

/-! ### the end: nothing is pending -/
/-- the node into which a node went in the end -/
theorem reps {M : Mg} {nx : Nat} (down : ∀ r k, M r = some k → k < r ∧ r < nx) : ∃ h : Nat → Nat, (∀ r k, M r = some k → h r = h k) ∧ ∀ n, M n = none → h n = n := by
  have key : ∀ N, ∃ h : Nat → Nat, (∀ r k, r < N → M r = some k → h r = h k) ∧ ∀ n, M n = none → h n = n := by
    intro N
    induction N with
    | zero => exact ⟨fun n => n, fun r k hr => absurd hr (Nat.not_lt_zero _), fun _ _ => rfl⟩
    | succ N ih =>
      obtain ⟨h, h1, h2⟩ := ih
      cases e : M N with
      | none =>
        refine ⟨h, fun r k hr q => ?_, h2⟩
        rcases Nat.lt_succ_iff_lt_or_eq.mp hr with z | z
        · exact h1 r k z q
        · rw [z, e] at q; cases q
      | some j =>
        have hj := (down N j e).1
        have lt : ∀ n, n < N → (fun n => if n = N then h j else h n) n = h n := fun n hn => if_neg (Nat.ne_of_lt hn)
        have eq : (fun n => if n = N then h j else h n) N = h j := if_pos rfl
        refine ⟨fun n => if n = N then h j else h n, fun r k hr q => ?_, fun n hn => ?_⟩
        · rcases Nat.lt_succ_iff_lt_or_eq.mp hr with z | z
          · rw [lt r z, lt k (Nat.lt_trans (down r k q).1 z)]
            exact h1 r k z q
          · subst z
            rw [e] at q
            rw [← Option.some.inj q, eq, lt j hj]
        · have z : n ≠ N := fun z => by rw [z, e] at hn; cases hn
          show (if n = N then h j else h n) = n
          rw [if_neg z]
          exact h2 n hn
  obtain ⟨h, h1, h2⟩ := key nx
  exact ⟨h, fun r k q => h1 r k (down r k q).2 q, h2⟩
theorem LFI.fold {E : Gr} {M : Mg} {nx : Nat} {ps : List (List Nat)} (g : LFI E M [] nx) (q : LFS E M [] ps) : IsFold E ps := by
  obtain ⟨h, h1, h2⟩ := reps g.down
  have hi : InvCl E := fun u c v _ e => (g.einv _ _ _ e).2
  have cm : CompS E h E M [] := ⟨fun u c v e => by rw [h2 u (g.live _ _ _ e).1.1, h2 v (g.live _ _ _ e).2.1]; exact e, h1, fun p hp => (nomatch hp)⟩
  refine ⟨hi, ?_, fun D r hD hc => ?_⟩
  · have z := q.cmp E h hi cm
    rw [h2 0 g.root] at z
    exact z
  · obtain ⟨k, k0, kc⟩ := q.snd D r hD hc
    exact ⟨k, k0, fun u c v _ e => kc.1 u c v e⟩

/-! ### a generator: the walk, then new nodes -/
/-- how far a path goes, and where -/
def far (E : Gr) : Nat → List Nat → Nat × Nat
  | u, [] => (u, 0)
  | u, c :: w => match E u c with
    | none => (u, 0)
    | some v => ((far E v w).1, (far E v w).2 + 1)
/-- p is laid up to its i-th step, at node src; nx the next node -/
structure LFP (E : Gr) (M : Mg) (P : Pd) (ps : List (List Nat)) (p : List Nat) (i src : Nat) : Prop where
  snd : ∀ (D : Gr) (r : Nat), InvCl D → ClosedAt D r ps → run D r p = some r → ∃ h : Nat → Nat, h 0 = r ∧ CompS D h E M P ∧ run D r (p.take i) = some (h src)
  cmp : ∀ (D : Gr) (h : Nat → Nat), InvCl D → CompS D h E M P → ClosedAt D (h 0) ps ∧ run D (h 0) (p.take i) = some (h src)
theorem LFP.start {E : Gr} {M : Mg} {P : Pd} {ps : List (List Nat)} (g : LFS E M P ps) (p : List Nat) : LFP E M P ps p 0 0 := by
  refine ⟨fun D r hD hc hr => ?_, fun D h hD c => ⟨g.cmp D h hD c, rfl⟩⟩
  obtain ⟨h, h0, c⟩ := g.snd D r hD hc
  exact ⟨h, h0, c, by rw [h0]; rfl⟩
/-- along an edge that is there -/
theorem LFP.along {E : Gr} {M : Mg} {P : Pd} {ps : List (List Nat)} {p : List Nat} {i src c v : Nat} (g : LFP E M P ps p i src) (hp : p[i]? = some c) (e : E src c = some v) : LFP E M P ps p (i + 1) v := by
  refine ⟨fun D r hD hc hr => ?_, fun D h hD k => ?_⟩
  · obtain ⟨h, h0, k, q⟩ := g.snd D r hD hc hr
    exact ⟨h, h0, k, by rw [run_take_next hp q]; exact k.1 _ _ _ e⟩
  · obtain ⟨k1, k2⟩ := g.cmp D h hD k
    exact ⟨k1, by rw [run_take_next hp k2]; exact k.1 _ _ _ e⟩
/-- along a new edge to a new node -/
theorem LFP.out {E E' : Gr} {M : Mg} {P P' : Pd} {ps : List (List Nat)} {p : List Nat} {i src c nx : Nat} (f : LFI E M P nx) (g : LFP E M P ps p i src) (hp : p[i]? = some c) (hs : src < nx)
    (a : Adds E M P (nx + 1) src c nx E' P') : LFP E' M P' ps p (i + 1) nx := by
  refine ⟨fun D r hD hc hr => ?_, fun D h hD k => ?_⟩
  · obtain ⟨h, h0, k, q⟩ := g.snd D r hD hc hr
    have q2 := run_take_next hp q
    obtain ⟨x, hx⟩ := run_take_some hr (i + 1)
    rw [hx] at q2
    have old : ∀ n, n < nx → (fun n => if n = nx then x else h n) n = h n := fun n hn => if_neg (Nat.ne_of_lt hn)
    have new : (fun n => if n = nx then x else h n) nx = x := if_pos rfl
    refine ⟨fun n => if n = nx then x else h n, ?_, (a.comp D _ hD).mpr ⟨⟨fun u d v e => ?_, fun r' k' e => ?_, fun y hy => ?_⟩, ?_⟩, ?_⟩
    · rw [old 0 f.one]; exact h0
    · rw [old u (f.live _ _ _ e).1.2, old v (f.live _ _ _ e).2.2]; exact k.1 _ _ _ e
    · rw [old r' (f.down _ _ e).2, old k' (Nat.lt_trans (f.down _ _ e).1 (f.down _ _ e).2)]; exact k.2.1 _ _ e
    · rw [old _ (f.pend y hy).1, old _ (f.pend y hy).2]; exact k.2.2 y hy
    · show D ((fun n => if n = nx then x else h n) src) c = some ((fun n => if n = nx then x else h n) nx)
      rw [old src hs, new]; exact q2.symm
    · rw [hx, new]
  · obtain ⟨k1, k2⟩ := (a.comp D h hD).mp k
    obtain ⟨k3, k4⟩ := g.cmp D h hD k1
    exact ⟨k3, by rw [run_take_next hp k4]; exact k2⟩
/-- the last edge, back to the root -/
theorem LFP.close {E E' : Gr} {M : Mg} {P P' : Pd} {ps : List (List Nat)} {p : List Nat} {i src c nx : Nat} (g : LFP E M P ps p i src) (hp : p[i]? = some c) (hl : i + 1 = p.length) (a : Adds E M P nx src c 0 E' P') : LFS E' M P' (ps ++ [p]) := by
  have full : p.take (i + 1) = p := by rw [hl, List.take_length]
  refine ⟨fun D r hD hc => ?_, fun D h hD k x hx => ?_⟩
  · have hr := hc p (List.mem_append_right _ (List.mem_singleton.mpr rfl))
    obtain ⟨h, h0, k, q⟩ := g.snd D r hD (fun x hx => hc x (List.mem_append_left _ hx)) hr
    refine ⟨h, h0, (a.comp D h hD).mpr ⟨k, ?_⟩⟩
    rw [← run_take_next hp q, full, hr, h0]
  · obtain ⟨k1, k2⟩ := (a.comp D h hD).mp k
    obtain ⟨k3, k4⟩ := g.cmp D h hD k1
    rcases List.mem_append.mp hx with hx | hx
    · exact k3 x hx
    · rw [List.mem_singleton.mp hx]
      have z := run_take_next hp k4
      rw [full, k2] at z
      exact z
/-- the whole path is there already: its end is the root, or is merged with it -/
theorem LFP.whole {E : Gr} {M : Mg} {P : Pd} {ps : List (List Nat)} {p : List Nat} {src : Nat} (g : LFP E M P ps p p.length src) : LFS E M (P ++ [(0, src)]) (ps ++ [p]) := by
  refine ⟨fun D r hD hc => ?_, fun D h hD k x hx => ?_⟩
  · have hr := hc p (List.mem_append_right _ (List.mem_singleton.mpr rfl))
    obtain ⟨h, h0, k, q⟩ := g.snd D r hD (fun x hx => hc x (List.mem_append_left _ hx)) hr
    refine ⟨h, h0, CompS.pend.mpr ⟨k, ?_⟩⟩
    rw [List.take_length, hr] at q
    rw [h0]
    exact Option.some.inj q
  · obtain ⟨k1, k2⟩ := CompS.pend.mp k
    obtain ⟨k3, k4⟩ := g.cmp D h hD k1
    rcases List.mem_append.mp hx with hx | hx
    · exact k3 x hx
    · rw [List.mem_singleton.mp hx]
      rw [List.take_length] at k4
      rw [k4, k2]
theorem LFP.wholeR {E : Gr} {M : Mg} {P : Pd} {ps : List (List Nat)} {p : List Nat} (g : LFP E M P ps p p.length 0) : LFS E M P (ps ++ [p]) :=
  (g.whole).imp fun D h hD => by
    rw [CompS.pend]
    exact ⟨fun k => k.1, fun k => ⟨k, rfl⟩⟩

/-! ### merging what is pending -/
/-- a step down: into what the node was merged -/
theorem CompS.up {D : Gr} {h : Nat → Nat} {E : Gr} {M : Mg} {P : Pd} (c : CompS D h E M P) {r k : Nat} (e : M r = some k) : h r = h k := c.2.1 r k e
/-- M' has the same nodes merged, each into one that it went into before (or the same one) -/
theorem CompS.short {E : Gr} {M M' : Mg} {P : Pd} (h1 : ∀ (D : Gr) (h : Nat → Nat), CompS D h E M P → ∀ r k, M' r = some k → h r = h k) (h2 : ∀ (D : Gr) (h : Nat → Nat), CompS D h E M' P → ∀ r k, M r = some k → h r = h k) (D : Gr) (h : Nat → Nat) :
    CompS D h E M P ↔ CompS D h E M' P := ⟨fun c => ⟨c.1, h1 D h c, c.2.2⟩, fun c => ⟨c.1, h2 D h c, c.2.2⟩⟩
end K73
set_option Elab.async false
set_option linter.all false
set_option maxRecDepth 100000
set_option maxHeartbeats 2000000
/-! K73RulesA: rules that the layer lacks: enumerate over a text, swapcase, pop of a tuple key, a text reversed, values of a new dict, == []. -/
namespace K73
open PySem PySem.Spec PyProof.Rows L2

/-! ### enumerate(text) -/
def IteS (x : Str) : It := ⟨fun i _ => i < x.cps.size, fun i H v H' => ∃ T c, v = .ref T ∧ H T = none ∧ H' = upd H T (.tup [.int (i : Nat), .str ⟨#[c]⟩]) ∧ x.cps[i]? = some c, fun i _ => i = x.cps.size⟩
theorem turn_enumS {P : Program} {w : World} {K : PySem.W.Frag} {elts : List Expr} {kk : Nat} {tpos : Pos} (x : Str) (t : Tok) (e it : Addr) :
    Turn P w K (.Tuple elts kk tpos) (IteS x) [e, it] e (fun i h => (∃ old, IsEnum h e it ((i : Nat) : Int) old) ∧ h.IsStrIter it (strIterType x) x t i ∧ e ≠ it) where
  mem := by simp
  obj := fun i h st b hb => by
    obtain ⟨⟨old, he⟩, ⟨o, ho, hc, hd⟩, _⟩ := st
    rcases (by simpa using hb : b = e ∨ b = it) with z | z
    · rw [z]; exact ⟨_, he, fun v q => nomatch q⟩
    · rw [z]; exact ⟨o, ho, fun v q => by rw [hd] at q; cases q⟩
  keep := fun i h h' st k => by
    obtain ⟨⟨old, he⟩, ⟨o, ho, r⟩, hne⟩ := st
    exact ⟨⟨old, k e (by simp) _ he⟩, ⟨o, k it (by simp) o ho, r⟩, hne⟩
  item := by
    intro X hP hw hK hc i pins s σ H E I hf st hg
    subst hP hw hK
    obtain ⟨⟨old, he⟩, hit, hne⟩ := st
    have hel : e < s.heap.objs.size := Heap.lt_size he
    have hil : it < s.heap.objs.size := by obtain ⟨_, q, _⟩ := hit; exact Heap.lt_size q
    have D := Draws.text (prog := X.prog) (w := X.w) (A := X.A.in1) (I.ok.hd hc) it x t
    refine wpAny_pyNext_enum_itemD D he hit hg hne (by simpa using hne) fun v h' tk hv ho hit' hT hsz hk => ?_
    obtain ⟨c, u, hcx, rfl⟩ := hv
    refine ⟨_, rfl, wpAny_letOwnedTupleGo_enum (s := { s with heap := h', toks := tk + 1 }) ho fun h'' he' sb => ?_⟩
    have hT2 : h''.get? s.heap.objs.size = some { cls := .type "tuple", data := .seq #[.int i tk, .str ⟨#[c]⟩ u] } := (sb.2 _ (Nat.ne_of_gt hel)).trans hT
    have new : ObjOk X.prog X.w (upd H s.heap.objs.size (.tup [.int (i : Nat), .str ⟨#[c]⟩])) h'' s.heap.objs.size (.tup [.int (i : Nat), .str ⟨#[c]⟩]) :=
      ⟨by show 2 ≤ sizeLine; decide, [.int i tk, .str ⟨#[c]⟩ u], .cons ⟨_, rfl⟩ (.cons ⟨_, rfl⟩ .nil), ⟨_, hT2, rfl, _, rfl⟩⟩
    have I1 : Inv X pins σ (upd H s.heap.objs.size (.tup [.int (i : Nat), .str ⟨#[c]⟩])) { s with heap := h'', toks := tk + 1 } :=
      I.turnedNew (ch := [e, it]) (fun b ob hb q => (sb.2 b (fun z => hb (by simp [z]))).trans (hk b ob (fun z => hb (by simp [z])) (fun z => hb (by simp [z])) q)) hf (Nat.le_refl _) new
    obtain ⟨oi, hoi, ri⟩ := hit'
    refine ⟨.ref s.heap.objs.size, _, I1, rfl, ⟨_, c, rfl, I.hok.fresh (Nat.le_refl _), rfl, hcx⟩, ⟨⟨.str ⟨#[c]⟩ u, ?_⟩, ⟨oi, (sb.2 it (Ne.symm hne)).trans hoi, ri⟩, hne⟩, fun b hb => ?_⟩
    · have e1 : ((i + 1 : Nat) : Int) = (i : Int) + 1 := by omega
      rw [e1]; exact he'
    · have hb' : b < s.heap.objs.size := by
        rcases (by simpa using hb : b = e ∨ b = it) with z | z
        · rw [z]; exact hel
        · rw [z]; exact hil
      rw [upd_ne (Nat.ne_of_lt hb')]
      exact (hf b hb).1
  done := by
    intro X hP hw hK hc i pins s σ H E I hf st hg
    subst hP hw hK
    obtain ⟨⟨old, he⟩, hit, hne⟩ := st
    obtain ⟨f0, f1, f2, f3, f4, f5⟩ := hf it (by simp)
    have hg' : i = x.cps.size := hg
    subst hg'
    have D := Draws.text (prog := X.prog) (w := X.w) (A := X.A.in1) (I.ok.hd hc) it x t
    exact wpAny_pyNext_enum_endD D he hit fun h' eb => ⟨rfl, I.turned (t' := s.toks) (fun b o hb q => eb b o hb q) f0 f1 f3 f4 f5⟩
  self := fun A i s Q E st h => let ⟨⟨_, he⟩, _⟩ := st; wpAny_pyIter_enum he h
def iEnumS (ta : TA) : TI := fun σ H R => ta σ H fun vs H1 => ∃ x, vs = [.str x] ∧ R (IteS x) H1
theorem pi_enumS {X : Cx} {e : Expr} {ta : TA} {p pos tpos : Pos} {elts : List Expr} {kk : Nat} (hg : Gl X "enumerate") (hm : X.mg "enumerate" = none) (ha : PA X [e] ta) (hs : starEach [e] X.env = [(false, eval e X.env)] := by rfl) :
    PI X (.Tuple elts kk tpos) (.Call (.Name "enumerate" p) [e] [] pos) (iEnumS ta) := by
  refine ⟨fun pins s σ H R I h => ?_⟩
  refine Call_ (ld_blt I hg hm boot_enumerate (PyProof.Rows.callWith_type1 (thn (ha.run pos pins s σ H _ I h) fun us s1 ⟨vs, H1, I1, r1, q1⟩ => ?_) hs rfl))
  obtain ⟨x, ex, q⟩ := q1
  subst ex
  cases r1 with
  | cons r rr =>
    cases rr
    obtain ⟨t, rfl⟩ := r
    refine call_enumerate_str fun h' he hit hsz hk => wpAny_pyIter_enum he ?_
    have I2 : Inv X pins σ H1 { s1 with heap := h' } := I1.kept (t' := s1.toks) hk
    refine ⟨s1.heap.objs.size + 1, [s1.heap.objs.size + 1, s1.heap.objs.size], _, _, H1, rfl, I2, turn_enumS x t (s1.heap.objs.size + 1) s1.heap.objs.size, ⟨⟨.none, he⟩, hit, Nat.succ_ne_self _⟩, fun b hb => ?_, q⟩
    have hle : s1.heap.objs.size ≤ b := by
      rcases (by simpa using hb : b = s1.heap.objs.size + 1 ∨ b = s1.heap.objs.size) with z | z
      · rw [z]; exact Nat.le_add_right _ _
      · rw [z]; exact Nat.le_refl _
    exact I1.fpOk hle (I1.hok.fresh hle)
theorem walk_enumS {x : Str} : Walk (IteS x) x.cps.size (fun _ => True) (fun i H v H' => ∃ T c, v = .ref T ∧ H T = none ∧ H' = upd H T (.tup [.int (i : Nat), .str ⟨#[c]⟩]) ∧ x.cps[i]? = some c) :=
  ⟨fun _ _ hi _ => hi, fun _ _ => rfl, fun _ _ _ _ _ _ y => y⟩

/-! ### s.swapcase() -/
theorem mt_swap {X : Cx} : MtR X "str.swapcase" (fun x xs H Q => ∃ a, x = .str a ∧ xs = [] ∧ Builtin.Str.tooLong (Txt.swapcase a).length = false ∧ Q (.str (Txt.swapcase a)) H) :=
  mt0 (C := fun a => Builtin.Str.tooLong (Txt.swapcase a).length = false) (g := fun a => .str (Txt.swapcase a)) fun a _ s _ hc h => PySem.SC.swapcase hc (h _ (s.toks + 1) ⟨_, rfl⟩)

/-! ### d.pop(k), k a tuple that is there -/
def rPopT1 : V → List V → Hp → VK → Prop := fun x xs H Q => ∃ (a : Addr) (kvs : List (List L2.Key × V)) (k : List L2.Key) (b : Addr) (v : V), x = .ref a ∧ xs = [.ref b] ∧ H a = some (.dT kvs) ∧ H b = some (.tup (k.map kV)) ∧ valV kvs k = some v ∧ Q v (upd H a (.dT (dropK kvs k)))
theorem mt_popT1 {X : Cx} (hu : X.A.units + 1 < cLine) : MtR X "dict.pop" rPopT1 := by
  intro pins s σ H x xs v us Q I rx rxs h
  obtain ⟨a, kvs, k, b, w, rfl, rfl, ha, hb, hv, q⟩ := h
  cases rx
  obtain ⟨u1, rfl, r1⟩ := vals1 rxs
  cases r1
  obtain ⟨z, hd, xs', rel, dd⟩ := dt_of I.hok ha
  have r := rel.val k
  rw [hv] at r
  cases e : atKey xs' k with
  | none => rw [e] at r; exact r.elim
  | some p =>
    rw [e] at r
    refine PySem.call_pop_heap (hsz := by rw [← Paired.length rel]; exact z) (more := []) (.inl rfl) (PySem.F.args_dict_pop_2 _ _) (tupleKind_room_in1 hu) (key_of I.hok hb) hd dd e fun h' hm' hs => ?_
    obtain ⟨o, es, ep, hq, h2, h3, h4, _, h5⟩ := hm'
    have I2 := d_write (ob := .dT (dropK kvs k)) (t' := s.toks + (tupleKind (mixKind X.prog X.w)).draws k) I (by rw [ha]; exact True.intro) hs ⟨o, hq⟩
      ⟨Nat.le_trans (dropK_le kvs k) z, hd, _, (DX.KT_drop k rel).keeps (fun c ys ec => (by rw [upd_ne (ne_of ec ha (fun z => nomatch z))]; exact ec)), o, es, ep, hq, h2, h3, h4, h5⟩
    exact ⟨w, _, I2, r, q⟩
end K73
set_option Elab.async false
set_option linter.all false
set_option maxRecDepth 100000
set_option maxHeartbeats 2000000
/-! K73RulesB: a text reversed, a result frozen, dict.update, == []. -/
namespace K73
open PySem PySem.Spec PyProof.Rows L2

/-! ### s[::-1] -/
def revS (z : Str) : Str := ⟨z.cps.toList.reverse.toArray⟩
def tRevS (te : TE) : TE := fun σ H Q => te σ H fun x H1 => ∃ z, x = .str z ∧ z.length ≤ sizeLine ∧ Q (.str (revS z)) H1
theorem pick_rev (z : Str) : ((Builtin.Str.strSliceIndices none none (-1) z.length).filterMap (z.cps[·]?)).toArray = (revS z).cps := by
  show ((sliceRange ((z.cps.size : Int) - 1) (-1) (-1)).filterMap (z.cps[·]?)).toArray = z.cps.toList.reverse.toArray
  rw [PySem.W.krv_sliceRange, PySem.W.krv_range, List.filterMap_reverse, PySem.W.krv_all]
theorem pe_revS {X : Cx} {e : Expr} {te : TE} {k : Nat} {p1 p2 p3 pos : Pos} (he : PE X e te) : PE X (.Subscript e (.Slice none none (some (.UnaryOp .USub (.Constant (.int 1) k p1) p2)) p3) pos) (tRevS te) := by
  refine ⟨fun pins s σ H Q I h => ?_⟩
  refine Subscript_ (thn (he.run pins s σ H _ I h) fun v s1 ⟨x, H1, I1, r1, z, ex, hz, q⟩ => ?_)
  subst ex
  obtain ⟨t, rfl⟩ := r1
  have hst : PO X (some (.UnaryOp .USub (.Constant (.int 1) k p1) p2)) (tPart (tUn (rU fun i => .int (-i)) (tC (.int 1)))) := po_some (pe_un un_neg pe_int)
  refine wpAny_Slice (thn (po_none.run pins s1 σ H1 (fun o H2 => o = none ∧ H2 = H1) I1 ⟨rfl, rfl⟩) fun vl s2 ⟨l, H2, I2, pl, el, e2⟩ => ?_)
  subst el e2
  refine thn (po_none.run pins s2 σ H2 (fun o H3 => o = none ∧ H3 = H2) I2 ⟨rfl, rfl⟩) fun vu s3 ⟨u, H3, I3, pu, eu, e3⟩ => ?_
  subst eu e3
  refine thn (hst.run pins s3 σ H3 (fun o H4 => o = some (-1) ∧ H4 = H3) I3 ⟨1, rfl, -1, rfl, rfl, rfl⟩) fun vs s4 ⟨o, H4, I4, ps, eo, e4⟩ => ?_
  subst eo e4
  obtain ⟨l', rfl, el⟩ := IsPart.raw pl
  obtain ⟨u', rfl, eu⟩ := IsPart.raw pu
  obtain ⟨st', rfl, es⟩ := IsPart.raw ps
  have h4 : Inv X pins σ H4 { s4 with heap := s4.heap.push { cls := .type "slice", data := .fields #[partValue l', partValue u', partValue st'] } } := I4.kept (t' := s4.toks) fun b ob q => Heap.get?_push_of_some _ q
  refine tail_any (T := "str") (ops := [.str z t, .ref s4.heap.objs.size]) (typeIs_str _ _ _) PySem.F.slot_str_getitem.lookup ?_ (by with_unfolding_all rfl)
  have e1 : (st'.map (·.1)) = some (-1) := es
  refine wpAny_getItem_str_slice (l := l') (u := u') (st := st') ⟨_, Heap.get?_push_size _ rfl, rfl, rfl⟩ (by rw [e1]; rfl) ?_
  unfold PySem.sliceMade PySem.slicePicked
  rw [es, el, eu]
  show Made.post (if ((-1 : Int) == 1 && (Builtin.Str.strSliceIndices none none (-1) z.length).length == z.length) = true then Made.val (.str z t)
    else Made.str ⟨((Builtin.Str.strSliceIndices none none (-1) z.length).filterMap (z.cps[·]?)).toArray⟩) (EP X pins σ Q) _
  rw [if_neg (by simp), pick_rev]
  have hl : (revS z).length ≤ sizeLine := by
    show (z.cps.toList.reverse.toArray).size ≤ sizeLine
    rw [List.size_toArray, List.length_reverse]
    exact hz
  exact ⟨hl, .str (revS z), H4, h4.tok _, ⟨_, rfl⟩, q⟩

/-! ### a value that nobody writes any more -/
def tFrz (te : TE) : TE := fun σ H Q => te σ H fun x H1 => ∃ d u, x = .ref d ∧ H1 d = some u ∧ Mut (some u) ∧ ∀ o, Q x (upd H1 d (.frz o u))
theorem pe_frz {X : Cx} {e : Expr} {te : TE} (he : PE X e te) : PE X e (tFrz te) := by
  refine ⟨fun pins s σ H Q I h => ?_⟩
  refine thn (he.run pins s σ H _ I h) fun v s1 ⟨x, H1, I1, r1, d, u, ex, hd, mu, q⟩ => ?_
  obtain ⟨o, I2⟩ := I1.lock hd mu
  exact ⟨x, _, I2, r1, q o⟩

/-! ### d.update(e), e another dict -/
def rUpdD : V → List V → Hp → VK → Prop := fun x xs H Q => ∃ (d o : Addr) (kvs more : List (L2.Key × V)), x = .ref d ∧ xs = [.ref o] ∧ d ≠ o ∧ H d = some (.dK kvs) ∧ H o = some (.dK more) ∧ kvs.length + more.length ≤ sizeLine ∧ Q .non (upd H d (.dK (mergeK kvs more)))
theorem mt_updD {X : Cx} : MtR X "dict.update" rUpdD := by
  intro pins s σ H x xs v us Q I rx rxs h
  obtain ⟨d, o, kvs, more, rfl, rfl, hne, hd, ho, hz, q⟩ := h
  cases rx
  obtain ⟨u1, rfl, r1⟩ := vals1 rxs
  cases r1
  obtain ⟨z1, s1, vs, kv, dd⟩ := dk_of I.hok hd
  obtain ⟨z2, s2, ws, kw, oo⟩ := dk_of I.hok ho
  have l1 := kv.length
  have l2 := kw.length
  refine call_meetsIn PySem.F.slot_dict_update dd.typeIs PySem.F.entry_dict_update (PySem.F.args_dict_update_2 _ _) (meets_dict_update (mixKind X.prog X.w) d o hne s2)
    ⟨vs, ws, dd, oo, by omega, fun h' hd' ho' hs => ?_⟩
  have I2 := d_write (ob := .dK (mergeK kvs more)) (t' := s.toks) I (by rw [hd]; exact True.intro) hs (let ⟨q, _, _, e, _⟩ := hd'; ⟨q, e⟩)
    (dk_new (Nat.le_trans (length_mergeK more kvs) hz) s1 (KV.merge kw kv) hd')
  exact ⟨.non, _, I2, rfl, q⟩

/-! ### xs == [], xs != [] -/
def Plain (K : PySem.W.Frag) (H : Hp) (v : V) : Prop := ∃ d, Dp K H v d ∧ d.canLay0 = true ∧ d.depth ≤ 60
theorem plain_all {K : PySem.W.Frag} {H : Hp} : ∀ {xs : List V}, (∀ x ∈ xs, Plain K H x) → ∃ ds, DpAll K H xs ds ∧ PyData.canLayAll0 ds = true ∧ PyData.depthAll ds ≤ 60 ∧ ds.length = xs.length
  | [], _ => ⟨[], .nil, by simp [PyData.canLayAll0], by simp [PyData.depthAll], rfl⟩
  | x :: xs, h => by
    obtain ⟨d, hd, sd, zd⟩ := h x List.mem_cons_self
    obtain ⟨ds, hds, sds, zds, l⟩ := plain_all (xs := xs) fun y hy => h y (List.mem_cons_of_mem _ hy)
    refine ⟨d :: ds, .cons hd hds, ?_, ?_, by rw [List.length_cons, List.length_cons, l]⟩
    · simp only [PyData.canLayAll0, sd, sds, Bool.and_self]
    · simp only [PyData.depthAll]; omega
theorem shaped_list {ds : List PyData} (h1 : PyData.canLayAll0 ds = true) (h2 : PyData.depthAll ds ≤ 60) : SeqAt.shaped (.list ds) = true := by
  unfold SeqAt.shaped
  refine Bool.and_eq_true_iff.mpr ⟨?_, decide_eq_true ?_⟩
  · simp only [PyData.canLay0]; exact h1
  · simp only [PyData.depth]; omega
theorem eqv_nil (ds : List PyData) : PyData.eqv (.list ds) (.list []) = ds.isEmpty := by
  cases ds <;> simp [PyData.eqv, PyData.eqvAll]
theorem rEq_nil {K : PySem.W.Frag} {H : Hp} {a b : Addr} {xs : List V} {Q : VK} (h : SqL K H a xs) (hp : ∀ x ∈ xs, Plain K H x) (hb : SqL K H b []) (q : Q (.bl xs.isEmpty) H) : rEqD K (.ref a) (.ref b) H Q := by
  obtain ⟨ds, hds, s1, s2, l⟩ := plain_all hp
  have sds := shaped_list s1 s2
  refine ⟨.list ds, .list [], .lst h hds, .lst hb .nil, sds, rfl, ?_⟩
  rw [eqv_nil]
  have e : ds.isEmpty = xs.isEmpty := by cases ds <;> cases xs <;> first | rfl | (simp at l)
  rw [e]; exact q
theorem rNe_nil {K : PySem.W.Frag} {H : Hp} {a b : Addr} {xs : List V} {Q : VK} (h : SqL K H a xs) (hp : ∀ x ∈ xs, Plain K H x) (hb : SqL K H b []) (q : Q (.bl (!xs.isEmpty)) H) : rNeD K (.ref a) (.ref b) H Q := by
  obtain ⟨ds, hds, s1, s2, l⟩ := plain_all hp
  have sds := shaped_list s1 s2
  refine ⟨.list ds, .list [], .lst h hds, .lst hb .nil, sds, rfl, ?_⟩
  rw [eqv_nil]
  have e : ds.isEmpty = xs.isEmpty := by cases ds <;> cases xs <;> first | rfl | (simp at l)
  rw [e]; exact q
end K73
set_option Elab.async false
set_option linter.all false
set_option maxRecDepth 100000
set_option maxHeartbeats 2000000
/-! K73G: promises of defs that print data: nothing is being printed around them. -/
namespace K73
open PySem PySem.Spec PyProof.Rows L2
/-- nothing is being printed -/
def Still (A : Around) : Prop := A.guards = some []
theorem Still.deeper {A : Around} (h : Still A) (e : Env) : Still (A.deeper e) := h
theorem Still.in1 {A : Around} (h : Still A) : Still A.in1 := h
/-- a promise that is kept where nothing is being printed -/
structure FnS (P : Program) (w : World) (K : PySem.W.Frag) (mg : Str → Option Value) (base : Heap) (k : Nat) (f : Addr) (fd : FuncData) (ps : List Str) (sp : Sp) : Prop where
  len : ∀ vs H Q E, sp vs H Q E → vs.length = ps.length
  go : ∀ (A : Around), Still A → ∀ (outer : List Env) (s : Shared) (H : Hp) (args : Args) (us : List Value) (vs : List V) (Q : VK) (E : XK), Room k A → Env0 P w K mg base A outer s H → BindsTo s fd args (ps.zip us) → Vals vs us → sp vs H Q E →
    codeAny (model P w) A (.call (.ref f) args) (CR CX0 outer P w H s Q E) s
section
variable {P : Program} {w : World} {K : PySem.W.Frag} {mg : Str → Option Value} {base : Heap} {x qual : Str} {params : Arguments} {body : List Stmt} {scope : Scope} {dvs : List V} {kws : List (Str × V)} {f : Addr} {fd : FuncData}
theorem fnS {N ps : List Str} {k : Nat} {sp : Sp} (F : FunD K x qual params body scope dvs kws f fd) (S : FnScope N ps scope) (len : ∀ vs H Q E, sp vs H Q E → vs.length = ps.length)
    (hb : ∀ (cdv : Value) (A : Around) (outer : List Env) (s : Shared) (H : Hp) (vs : List V) (Q : VK) (E : XK), Room k (A.deeper (envOfC qual scope s.heap.objs.size f cdv)) → Still (A.deeper (envOfC qual scope s.heap.objs.size f cdv)) → sp vs H Q E →
      ∃ t, PSs (cxOf CX0 P w K mg base N qual scope f cdv A outer s H E).nox body t ∧ t { nx := fun _ H' => Q .non H', rt := Q } (start N vs) H) : FnS P w K mg base (k + 1) f fd ps sp := by
  obtain ⟨oc, od, dV, kV, doc, pm, an, cdv, ct, osl, rfl, lk, hcd, _, _⟩ := F.ex
  refine ⟨len, fun A st outer s H args us vs Q E room env bind rel h => ?_⟩
  have stay : ∀ b o, base.get? b = some o → s.heap.get? b = some o := fun b o e => (env.bs b o e).1
  have kin : K.In s.heap := env.mod.kin.keeps stay
  refine codeAny_call_function room.depth (kin _ _ lk) rfl S.co S.gen rfl (PySem.W.codeRec_of kin hcd) (bind _ _ _ _ ?_)
  refine wpAny_newFunctionEnv_cells S.kind (fun p hp => ?_) fun en en' s1 x => ?_
  · rcases S.par p.1 (List.of_mem_zip (a := p.1) (b := p.2) hp).1 with z | z
    · exact .inl z
    · exact .inr ⟨z, PySem.W.cellsFrom_some _ _ _ (.inl z)⟩
  · subst en'
    refine ⟨(env.mod.nolimit.keeps stay).keeps x.toInCall.keep, codeAny_func ?_⟩
    obtain ⟨t, ht, q⟩ := hb cdv A outer s H vs Q E (room.deeper _) (st.deeper _) h
    have I := inv_start (CX := CX0) (E := E) S room.hd env (len _ _ _ _ h) rel x
    refine wpAny_mono (ht.nox.run [] s1 (start N vs) H _ I q) (fun fl s2 z => ?_) fun _ _ z => z
    cases fl with
    | ret u => exact let ⟨v, _, H2, J, rv, z⟩ := z; ⟨v, H2, J.os, J.bare, J.base, J.hok, rv, z⟩
    | next => exact let ⟨_, H2, J, z⟩ := z; ⟨.non, H2, J.os, J.bare, J.base, J.hok, rfl, z⟩
    | brk => exact let ⟨_, _, _, z⟩ := z; z.elim
    | cont => exact let ⟨_, _, _, z⟩ := z; z.elim
theorem FnS.of {k : Nat} {ps : List Str} {sp : Sp} (F : FnOk P w K mg base CX0 k f fd ps sp) : FnS P w K mg base k f fd ps sp :=
  ⟨F.len, fun A _ outer s H args us vs Q E => F.run A outer s H args us vs Q E⟩
end
section
variable {X : Cx} {k : Nat} {f : Addr} {fd : FuncData} {ps : List Str} {sp : Sp} {x : Str} {p pos : Pos} {e : Expr} {es : List Expr} {t : TA}
theorem run_fnS {pins : List (Addr × Obj)} {σ : L2.St} {H : Hp} {s : Shared} {Q : VK} {us : List Value} {vs : List V} (F : FnS X.prog X.w X.K X.mg X.base k f fd ps sp) (st : Still X.A) (hr : Room k X.A) (hb : Binds X.K fd ps [])
    (I : Inv X pins σ H s) (r : Vals vs us) (h : sp vs H Q E0) : wpAny (model X.prog X.w) X.A (call (.ref f) us) (EP X pins σ Q) X.xe s := by
  have hl : (us ++ []).length = ps.length := by rw [List.append_nil, ← r.length]; exact F.len _ _ _ _ h
  have bd := hb s us I.kIn hl
  rw [List.append_nil] at bd
  refine wpAny_call (codeAny_mono (F.go X.A st X.stack s H ⟨us, []⟩ us vs Q E0 hr I.env0 bd r h) fun z s2 q => ?_)
  cases z with
  | error _ => exact False.elim q
  | ok fl =>
    cases fl with
    | ret u => exact I.after q
    | next => exact False.elim q
    | brk => exact False.elim q
    | cont => exact False.elim q
theorem pe_callS' (F : FnS X.prog X.w X.K X.mg X.base k f fd ps sp) (st : Still X.A) (hr : Room k X.A) (hg : Gl X x) (hm : X.mg x = some (.ref f)) (hk : PySem.W.keepIn X.K (.ref f) = true) (hb : Binds X.K fd ps [])
    (ha : PA X (e :: es) t) (hdb : (x == ("__debug__" : Str)) = false := by decide) (he : starEach (e :: es) X.env = (false, eval e X.env) :: starEach es X.env := by rfl) (hpl : (backTo pos (starEach es X.env)).any (·.1) = false := by rfl) :
    PE X (.Call (.Name x p) (e :: es) [] pos) (fun σ H Q => t σ H fun vs H1 => sp vs H1 Q E0) := by
  refine ⟨fun pins s σ H Q I h => wpAny_Call_Name_kw (ld_glob I hg hm ?_ hdb)⟩
  exact PySem.W.callWith_K (h₀ := X.base) I.ok.mod.kin hk (thn (ha.run pos pins s σ H _ I h) fun us s1 ⟨vs, H1, I1, r, q⟩ => ⟨I1.kIn, run_fnS F st hr hb I1 r q⟩) he hpl
end
/-- the law's end -/
theorem still_caller : Still callerA := rfl
end K73
set_option Elab.async false
set_option linter.all false
set_option maxRecDepth 100000
set_option maxHeartbeats 2000000
/-! K73Top: the text by places, words as texts, what is asked of a def that is called. -/
namespace K73
open PySem PySem.Spec PyProof.Rows L2
def topS (i : Nat) : Stmt := PySem.Challenge.pw_walkshome_k73_whole_undo_restores_everyt.main.body.getD i (.Pass ⟨0, 0, 0, 0⟩)
abbrev FnP (K : PySem.W.Frag) (x : Str) (st : Stmt) (f : Addr) (fd : FuncData) : Prop := FunD K x x (defArgs st) (defBody st) (defScope st) [] [] f fd
abbrev MtP (K : PySem.W.Frag) (c x : Str) (st : Stmt) (f : Addr) (fd : FuncData) : Prop := FunD K x c (defArgs st) (defBody st) (defScope st) [] [] f fd

/-- the def of that name is there and keeps its promise -/
structure Has (P : Program) (w : World) (K : PySem.W.Frag) (mg : Str → Option Value) (base : Heap) (k : Nat) (x : Str) (ps : List Str) (sp : Sp) : Prop where
  ex : ∃ (f : Addr) (fd : FuncData), mg x = some (.ref f) ∧ PySem.W.keepIn K (.ref f) = true ∧ Binds K fd ps [] ∧ FnOk P w K mg base CX0 k f fd ps sp
section
variable {P : Program} {w : World} {K : PySem.W.Frag} {mg : Str → Option Value} {base : Heap} {k : Nat} {x : Str} {ps : List Str} {sp : Sp}
theorem Has.mk' {f : Addr} {fd : FuncData} {q : Str} {a : Arguments} {b : List Stmt} {sc : Scope} (F : FunD K q x a b sc [] [] f fd) (g : mg x = some (.ref f)) (bd : Binds K fd ps []) (G : FnOk P w K mg base CX0 k f fd ps sp) : Has P w K mg base k x ps sp := ⟨f, fd, g, F.kp, bd, G⟩
end
section
variable {X : Cx} {k : Nat} {ps : List Str} {sp : Sp} {x : Str} {p pos : Pos} {e : Expr} {es : List Expr} {t : TA}
theorem pe_h (Z : Has X.prog X.w X.K X.mg X.base k x ps sp) (hr : Room k X.A) (ha : PA X (e :: es) t) (hg : Gl X x := by rfl) (hdb : (x == ("__debug__" : Str)) = false := by decide) (he : starEach (e :: es) X.env = (false, eval e X.env) :: starEach es X.env := by rfl)
    (hpl : (backTo pos (starEach es X.env)).any (·.1) = false := by rfl) : PE X (.Call (.Name x p) (e :: es) [] pos) (tCall sp [] E0 t) := by
  obtain ⟨f, fd, g, kp, b, G⟩ := Z.ex
  exact pe_call G hr hg g kp b .nil pass0 ha hdb he hpl
end

/-! ### the names that are free, the constants -/
structure Bi (mg : Str → Option Value) : Prop where
  len : mg "len" = none
  range : mg "range" = none
  enumerate : mg "enumerate" = none
  isinstance : mg "isinstance" = none
  int : mg "int" = none
  str : mg "str" = none
  bool : mg "bool" = none
  list : mg "list" = none
  tuple : mg "tuple" = none
  sorted : mg "sorted" = none
  all : mg "all" = none
  repr : mg "repr" = none
  max : mg "max" = none
  min : mg "min" = none
  STEPS : ∃ t, mg "STEPS" = some (.str "aAbBcCdD" t)
  MAX_STEPS : ∃ t, mg "MAX_STEPS" = some (.int 400 t)
  MAX_GENERATORS : ∃ t, mg "MAX_GENERATORS" = some (.int 16 t)
  MAX_GENERATOR_STEPS : ∃ t, mg "MAX_GENERATOR_STEPS" = some (.int 60 t)
  USER_COUNT : ∃ t, mg "USER_COUNT" = some (.int 4 t)
  MAX_CHANGES : ∃ t, mg "MAX_CHANGES" = some (.int 200 t)
theorem pe_const {X : Cx} {x : Str} {i : Int} {pos : Pos} (h : ∃ t, X.mg x = some (.int i t)) (hg : Gl X x := by rfl) (hd : (x == ("__debug__" : Str)) = false := by decide) : PE X (.Name x pos) (tC (.int i)) := by
  obtain ⟨t, h⟩ := h
  exact pe_glob hg h ⟨t, rfl⟩ hd
theorem pe_constS {X : Cx} {x z : Str} {pos : Pos} (h : ∃ t, X.mg x = some (.str z t)) (hg : Gl X x := by rfl) (hd : (x == ("__debug__" : Str)) = false := by decide) : PE X (.Name x pos) (tC (.str z)) := by
  obtain ⟨t, h⟩ := h
  exact pe_glob hg h ⟨t, rfl⟩ hd

/-! ### words as texts -/
def tx (w : List Nat) : Str := ⟨w.toArray⟩
def ch (c : Nat) : Str := ⟨#[c]⟩
theorem tx_inj {a b : List Nat} (h : tx a = tx b) : a = b := by
  have q := congrArg (fun z : Str => z.cps.toList) h
  simpa [tx] using q
theorem ch_inj {a b : Nat} (h : ch a = ch b) : a = b := by
  have q : tx [a] = tx [b] := h
  simpa using tx_inj q
theorem tx_len (w : List Nat) : (tx w).length = w.length := by
  show w.toArray.size = w.length
  simp
theorem tx_cps (w : List Nat) : (tx w).cps.toList = w := by simp [tx]
theorem tx_size (w : List Nat) : (tx w).cps.size = w.length := by simp [tx]
theorem tx_get (w : List Nat) (i : Nat) : (tx w).cps[i]? = w[i]? := by simp [tx]
theorem tx_app (a b : List Nat) : tx a ++ tx b = tx (a ++ b) := by
  show (⟨a.toArray ++ b.toArray⟩ : Str) = ⟨(a ++ b).toArray⟩
  simp
theorem str_tx (x : Str) : x = tx x.cps.toList := by
  show x = ⟨x.cps.toList.toArray⟩
  simp
def stepsL : List Nat := [97, 65, 98, 66, 99, 67, 100, 68]
theorem steps_tx : ("aAbBcCdD" : Str) = tx stepsL := by decide +kernel
theorem isStep_iff {c : Nat} : isStep c ↔ c ∈ stepsL := by
  unfold isStep stepsL
  simp only [List.mem_cons, List.not_mem_nil, or_false]
theorem empty_tx : ("" : Str) = tx [] := by decide +kernel
theorem swap_step {c : Nat} (h : isStep c) : Txt.swapcase (ch c) = ch (inv c) := by
  rcases h with rfl | rfl | rfl | rfl | rfl | rfl | rfl | rfl <;> decide +kernel
theorem ch_ref (c : Nat) : (⟨#[c]⟩ : Str) = ch c := rfl
/-- join of single signs -/
theorem join_signs' : ∀ w : List Nat, Str.join (tx []) (w.map ch) = tx w
  | [] => rfl
  | [c] => rfl
  | c :: d :: w => by
    have e : Str.join (tx []) ((c :: d :: w).map ch) = ch c ++ tx [] ++ Str.join (tx []) ((d :: w).map ch) := rfl
    rw [e, join_signs' (d :: w)]
    have e2 : ch c = tx [c] := rfl
    rw [e2, tx_app, tx_app]
    rfl
theorem join_signs (w : List Nat) : Txt.join (tx []) (w.map ch) = tx w := by
  rw [TL.join_eq]
  exact join_signs' w
end K73
set_option Elab.async false
set_option linter.all false
set_option maxRecDepth 100000
set_option maxHeartbeats 2000000
/-! K73Lib: heaps that keep what stands; comprehensions that change nothing. -/
namespace K73
open PySem PySem.Spec PyProof.Rows L2
abbrev Sl := L2.St
theorem same_new {H : Hp} {p : Addr} {o : HO} (h : H p = none) : Same H (upd H p o) := fun b u e => by
  rw [upd_ne (ne_of_none e h)]; exact e
theorem same_upd {H H' : Hp} {p : Addr} {o : HO} (s : Same H H') (h : H p = none) : Same H (upd H' p o) := fun b u e => by
  rw [upd_ne (ne_of_none e h)]; exact s b u e
theorem snew {H H' : Hp} {p : Addr} {o : HO} (s : Same H H') (h : H' p = none) : Same H (upd H' p o) := same_upd s (s.free h)
theorem iteTb {b : Bool} {A B : Prop} (e : b = true) (h : A) : if b = true then A else B := by rw [if_pos e]; exact h
theorem iteFb {b : Bool} {A B : Prop} (e : b = false) (h : B) : if b = true then A else B := by
  rw [if_neg (by rw [e]; exact Bool.false_ne_true)]; exact h
theorem iteB {b : Bool} {A B : Prop} (h1 : b = true → A) (h2 : b = false → B) : if b = true then A else B := by
  cases b with
  | true => exact iteT (h1 rfl)
  | false => exact iteF (h2 rfl)
/-- a test whose answer is a decided proposition -/
theorem iteD {c : Prop} [Decidable c] {A B : Prop} (h1 : c → A) (h2 : ¬ c → B) : if decide c = true then A else B :=
  iteB (fun e => h1 (of_decide_eq_true e)) fun e => h2 (of_decide_eq_false e)
theorem room64 {A : Around} {k : Nat} (hr : Room k A) : A.units + 64 < cLine := by
  have := hr.un
  omega
section
variable {J : It} {n : Nat} {G : Hp → Prop} {Y : Nat → Hp → V → Hp → Prop}
/-- [f(x) for x in ..], nothing is changed -/
theorem lc_map (w : Walk J n G Y) {g : TG} {te : TE} {vs : List Nat} {σ : Sl} {H1 : Hp} {D : Addr} {Qd : Hp → Prop} (f : Nat → V) (hz : n ≤ sizeLine) (hG : ∀ H, Same H1 H → G H) (hD : H1 D = none)
    (hs : ∀ i x H H' (Q : VK), i < n → Same H1 H → Y i H x H' → (∀ H4, Same H H4 → Q (f i) H4) → g x (wipe σ vs) H' fun σ2 H2 => wipe σ2 vs = wipe σ vs ∧ te σ2 H2 Q)
    (hd : ∀ H, Same H1 H → H D = some (.lst ((List.range n).map f)) → Qd H) :
    ∃ W : Nat → Nat → Hp → Prop, (∃ m, W 0 m (upd H1 D (.lst []))) ∧ ∀ i m H, W i m H →
      (J.stop i H ∧ Qd H) ∨ (J.go i H ∧ ∃ Nx : Hp → Prop, (∀ H', Nx H' → ∃ m', m' < m ∧ W (i + 1) m' H') ∧ ∀ x H', J.yld i H x H' → g x (wipe σ vs) H' fun σ2 H2 => wipe σ2 vs = wipe σ vs ∧ tYes σ2 H2 fun b H3 =>
        if b = true then te σ2 H3 fun y H4 => ∃ acc, H4 D = some (.lst acc) ∧ acc.length < sizeLine ∧ Nx (upd H4 D (.lst (acc ++ [y]))) else Nx H3) := by
  refine lc_it w (fun i H => Same H1 H ∧ H D = some (.lst ((List.range i).map f))) ⟨same_new hD, upd_same⟩ (fun i H _ p => hG H p.1) (fun i x H H' hi p y => ?_) (fun H p => hd H p.1 p.2)
  refine hs i x H H' _ hi p.1 y fun H4 s4 => ⟨_, s4 _ _ p.2, ?_, ?_, ?_⟩
  · rw [List.length_map, List.length_range]; exact Nat.lt_of_lt_of_le hi hz
  · exact same_upd (p.1.trans s4) hD
  · rw [upd_same, List.range_succ, List.map_append]; rfl
/-- [f(x) for x in .. if t(x)], nothing is changed -/
theorem lc_filt (w : Walk J n G Y) {g : TG} {tt : TT} {te : TE} {vs : List Nat} {σ : Sl} {H1 : Hp} {D : Addr} {Qd : Hp → Prop} (k : Nat → Bool) (f : Nat → V) (hz : n ≤ sizeLine) (hG : ∀ H, Same H1 H → G H) (hD : H1 D = none)
    (hs : ∀ i x H H' (Q : VK) (N : Hp → Prop), i < n → Same H1 H → Y i H x H' → (k i = true → ∀ H4, Same H H4 → Q (f i) H4) → (k i = false → ∀ H4, Same H H4 → N H4) →
      g x (wipe σ vs) H' fun σ2 H2 => wipe σ2 vs = wipe σ vs ∧ tt σ2 H2 fun b H3 => if b = true then te σ2 H3 Q else N H3)
    (hd : ∀ H, Same H1 H → H D = some (.lst (((List.range n).filter k).map f)) → Qd H) :
    ∃ W : Nat → Nat → Hp → Prop, (∃ m, W 0 m (upd H1 D (.lst []))) ∧ ∀ i m H, W i m H →
      (J.stop i H ∧ Qd H) ∨ (J.go i H ∧ ∃ Nx : Hp → Prop, (∀ H', Nx H' → ∃ m', m' < m ∧ W (i + 1) m' H') ∧ ∀ x H', J.yld i H x H' → g x (wipe σ vs) H' fun σ2 H2 => wipe σ2 vs = wipe σ vs ∧ tt σ2 H2 fun b H3 =>
        if b = true then te σ2 H3 fun y H4 => ∃ acc, H4 D = some (.lst acc) ∧ acc.length < sizeLine ∧ Nx (upd H4 D (.lst (acc ++ [y]))) else Nx H3) := by
  refine lc_it w (fun i H => Same H1 H ∧ H D = some (.lst (((List.range i).filter k).map f))) ⟨same_new hD, upd_same⟩ (fun i H _ p => hG H p.1) (fun i x H H' hi p y => ?_) (fun H p => hd H p.1 p.2)
  refine hs i x H H' _ _ hi p.1 y (fun hk H4 s4 => ⟨_, s4 _ _ p.2, ?_, ?_, ?_⟩) (fun hk H4 s4 => ⟨p.1.trans s4, ?_⟩)
  · rw [List.length_map]
    have q := List.length_filter_le k (List.range i)
    rw [List.length_range] at q
    omega
  · exact same_upd (p.1.trans s4) hD
  · rw [upd_same, List.range_succ, List.filter_append, List.map_append]
    have e : List.filter k [i] = [i] := by simp [hk]
    rw [e]; rfl
  · rw [s4 _ _ p.2, List.range_succ, List.filter_append]
    have e : List.filter k [i] = [] := by simp [hk]
    rw [e, List.append_nil]
end
/-- the items of a list, by their places -/
theorem range_map_get {α : Type} {β : Type} (d : β) (g : α → β) : ∀ xs : List α, (List.range xs.length).map (fun i => ((xs[i]?).map g).getD d) = xs.map g := fun xs => by
  refine List.ext_getElem? fun i => ?_
  rw [List.getElem?_map, List.getElem?_map]
  by_cases h : i < xs.length
  · rw [List.getElem?_range h, List.getElem?_eq_getElem h]; simp [h]
  · rw [List.getElem?_eq_none (by simpa using h), List.getElem?_eq_none (by omega)]; rfl
theorem sum_ch : ∀ w : List Nat, ((w.map ch).map (·.length)).sum = w.length
  | [] => rfl
  | c :: w => by
    rw [List.map_cons, List.map_cons, List.sum_cons, sum_ch w, List.length_cons]
    show 1 + w.length = w.length + 1
    omega
end K73
set_option Elab.async false
set_option linter.all false
set_option maxRecDepth 100000
set_option maxHeartbeats 2000000
/-! K73W1: the program's paths. -/
namespace K73
open PySem PySem.Spec PyProof.Rows L2
abbrev sIsInt : Stmt := topS 19
abbrev sIsPath : Stmt := topS 20
abbrev sReqPath : Stmt := topS 21
abbrev sReduce : Stmt := topS 22
abbrev sRedGen : Stmt := topS 24
def spIsInt : Sp := fun vs H Q _ => ∃ i : Int, vs = [.int i] ∧ Q (.bl true) H
def spIsPath : Sp := fun vs H Q _ => ∃ w : List Nat, vs = [.str (tx w)] ∧ Steps w ∧ w.length ≤ 400 ∧ ∀ H', Same H H' → Q (.bl true) H'
def spReqPath : Sp := fun vs H Q _ => ∃ w : List Nat, vs = [.str (tx w)] ∧ Steps w ∧ w.length ≤ 400 ∧ ∀ H', Same H H' → Q .non H'
section
variable {P : Program} {w : World} {K : PySem.W.Frag} {mg : Str → Option Value} {base : Heap} {f : Addr} {fd : FuncData}
theorem scIsInt : FnScope ["value"] ["value"] (defScope sIsInt) := ⟨rfl, rfl, rfl, by decide +kernel, rfl, by decide +kernel, by decide +kernel⟩
theorem ok_isInt (F : FnP K "is_integer" sIsInt f fd) (T : Bi mg) : FnOk P w K mg base CX0 1 f fd ["value"] spIsInt := by
  refine F.ok scIsInt (fun vs H Q E h => ?_) (fun cdv A outer s H vs Q E hr h => ⟨_, PSs.nox (pss_one (ps_ret (pe_and (pe_callB call_isi rfl T.isinstance (by decide +kernel) (pa_cons (pv 0) (pa_cons (pe_bltn (v := .ty "int") rfl T.int (by decide +kernel) rfl) pa_nil)))
      (pe_one (pe_not (pe_callB call_isi rfl T.isinstance (by decide +kernel) (pa_cons (pv 0) (pa_cons (pe_bltn (v := .ty "bool") rfl T.bool (by decide +kernel) rfl) pa_nil)))))))), ?_⟩)
  · obtain ⟨i, rfl, _⟩ := h; rfl
  · obtain ⟨i, rfl, q⟩ := h
    refine ⟨_, rfl, _, _, _, _, true, rfl, .ty "int", .base (.int i), kit_ty (by decide +kernel), ?_⟩
    refine ⟨true, rfl, ?_⟩
    refine iteT ?_
    refine ⟨_, rfl, _, _, _, _, false, rfl, .ty "bool", .base (.int i), kit_ty (by decide +kernel), ?_⟩
    exact ⟨false, rfl, q⟩

/-! is_path -/
theorem scIsPath : FnScope ["value", "step"] ["value"] (defScope sIsPath) := ⟨rfl, rfl, rfl, by decide +kernel, rfl, by decide +kernel, by decide +kernel⟩
theorem ok_isPath (F : FnP K "is_path" sIsPath f fd) (T : Bi mg) : FnOk P w K mg base CX0 1 f fd ["value"] spIsPath := by
  refine F.ok scIsPath (fun vs H Q E h => ?_) (fun cdv A outer s H vs Q E hr h => ⟨_, PSs.nox (pss_one (ps_ret (pe_and (pe_callB call_isi rfl T.isinstance (by decide +kernel) (pa_cons (pv 0) (pa_cons (pe_bltn (v := .ty "str") rfl T.str (by decide +kernel) rfl) pa_nil)))
      (pe_and (pe_cmpR op_le (pe_callB call_len_str rfl T.len PySem.boot_len (pa_cons (pv 0) pa_nil)) (pe_const T.MAX_STEPS) (nomark _))
        (pe_one (pe_callB (cr_all rfl) rfl T.all (by decide +kernel) (pa_cons (pe_lc (own := [("step", 1)]) (g := gName 1) (tt := tYes) rfl scIsPath.nd (pi_str (pv 0)) (blkOk_by (N := ["value", "step"]) (sc := defScope sIsPath) (by decide +kernel))
          (fun _ _ _ _ _ => pg_name (i := 1) scIsPath.nd rfl (Or.inl rfl)) (fun _ _ _ _ _ => pts_nil) (fun _ _ _ _ _ => pe_cmpR op_in_sign (pv 1) (pe_constS T.STEPS) rfl)) pa_nil))))))), ?_⟩)
  · obtain ⟨w, rfl, _⟩ := h; rfl
  · obtain ⟨w, rfl, hw, hl, q⟩ := h
    refine ⟨_, rfl, _, _, _, _, true, rfl, .ty "str", .base (.str _), kit_ty (by decide +kernel), true, rfl, iteT ?_⟩
    refine ⟨_, rfl, _, rfl, (by rw [tx_len]; exact Nat.le_trans hl (by decide)), _, _, rfl, rfl, ?_⟩
    refine ⟨decide ((((tx w).length : Nat) : Int) ≤ 400), rfl, ?_⟩
    rw [tx_len, decide_eq_true (show ((w.length : Nat) : Int) ≤ 400 by omega)]
    refine iteT ?_
    refine ⟨_, rfl, _, rfl, fun D hD => ?_⟩
    refine lc_map walk_str (fun _ => .bl true) (by rw [tx_size]; exact Nat.le_trans hl (by decide)) (fun _ _ => trivial) hD (fun i x H1 H2 Q2 hi s1 y k => ?_) (fun H1 s1 d1 => ?_)
    · obtain ⟨rfl, c, hc, rfl⟩ := y
      refine ⟨rfl, _, rfl, c, _, rfl, rfl, ?_⟩
      rw [tx_get] at hc
      have hs : c ∈ stepsL := isStep_iff.mp (hw c (List.mem_of_getElem? hc))
      have e : decide (c ∈ (("aAbBcCdD" : Str)).cps.toList) = true := by
        rw [steps_tx, tx_cps]; exact decide_eq_true hs
      rw [e]
      exact k _ (Same.refl _)
    · refine ⟨D, (List.range (tx w).cps.size).map (fun _ => true), rfl, SqL.of (by rw [d1, List.map_map]; rfl), ?_⟩
      have e : ((List.range (tx w).cps.size).map fun _ => true).all id = true := by
        rw [List.all_eq_true]
        intro x hx
        obtain ⟨_, _, rfl⟩ := List.mem_map.mp hx
        rfl
      rw [e]
      exact q _ s1
/-! require_path -/
theorem scReqPath : FnScope ["value"] ["value"] (defScope sReqPath) := ⟨rfl, rfl, rfl, by decide +kernel, rfl, by decide +kernel, by decide +kernel⟩
theorem ok_reqPath (F : FnP K "require_path" sReqPath f fd) (Z : Has P w K mg base 1 "is_path" ["value"] spIsPath) : FnOk P w K mg base CX0 2 f fd ["value"] spReqPath := by
  refine F.ok scReqPath (fun vs H Q E h => ?_) (fun cdv A outer s H vs Q E hr h => ⟨_, PSs.nox (pss_one (ps_if (pt_not (pt_val (pe_h Z hr (pa_cons (pv 0) pa_nil)))) (pss_one ps_never) pss_nil)), ?_⟩)
  · obtain ⟨w, rfl, _⟩ := h; rfl
  · obtain ⟨w, rfl, hw, hl, q⟩ := h
    exact ⟨_, rfl, w, rfl, hw, hl, fun H' s1 => ⟨true, rfl, iteF (q _ s1)⟩⟩
/-! reduce_all -/
theorem atI_end {α : Type} {xs : List α} {v : α} (h : xs.getLast? = some v) : atI xs (-1) = some v := by
  obtain ⟨ys, rfl⟩ := List.getLast?_eq_some_iff.mp h
  exact atI_last ys v
def signs (acc : List Nat) : List V := acc.map fun c => V.str (ch c)
theorem step_ok {c : Nat} (h : isStep c) : PyData.strOk (ch c) = true := by
  rcases h with rfl | rfl | rfl | rfl | rfl | rfl | rfl | rfl <;> decide +kernel
theorem signs_plain {K : PySem.W.Frag} {H : Hp} {acc : List Nat} (h : Steps acc) : ∀ x ∈ signs acc, Plain K H x := fun x hx => by
  obtain ⟨c, hc, rfl⟩ := List.mem_map.mp hx
  exact ⟨_, .str _, by simp [PyData.canLay0, step_ok (h c hc)], by simp [PyData.depth]⟩
theorem signs_len (acc : List Nat) : (signs acc).length = acc.length := List.length_map ..
theorem signs_emp (acc : List Nat) : (signs acc).isEmpty = acc.isEmpty := by cases acc <;> rfl
def spReduce (K : PySem.W.Frag) : Sp := fun vs H Q _ => ∃ (a : Addr) (w : List Nat), vs = [.ref a] ∧ SqL K H a [.str (tx w)] ∧ Steps w ∧ w.length ≤ 400 ∧ ∀ H', Same H H' → Q (.str (tx (red w))) H'
theorem scReduce : FnScope ["parts", "kept", "part", "step"] ["parts"] (defScope sReduce) := ⟨rfl, rfl, rfl, by decide +kernel, rfl, by decide +kernel, by decide +kernel⟩
theorem ok_reduce (F : FnP K "reduce_all" sReduce f fd) (T : Bi mg) : FnOk P w K mg base CX0 1 f fd ["parts"] (spReduce K) := by
  refine F.ok scReduce (fun vs H Q E h => ?_) (fun cdv A outer s H vs Q E hr h => ⟨_, PSs.nox (pss_cons (ps_set (i := 1) scReduce.nd rfl (Or.inl rfl) (pe_lst pa_nil))
    (pss_cons (ps_for PassesOwn.never rfl (pi_list (pv 0)) (pg_name (i := 2) scReduce.nd rfl (Or.inl rfl))
      (pss_one (ps_for PassesOwn.never rfl (pi_str (pv 2)) (pg_name (i := 3) scReduce.nd rfl (Or.inl rfl))
        (pss_one (ps_if (PW.pt (pw_and (pt_cmpR (op_neD (room64 hr)) (pv 1) (pe_lst pa_nil) (nomark _)) (pw_and1 (pt_cmpR op_eq (pe_ix ix_list (pv 1) (pe_un un_neg pe_int) (fun _ _ => rfl)) (pe_bm0 PySem.F.plainAttrs_str PySem.F.slot_str_swapcase PySem.F.type_str_swapcase mt_swap (pv 3)) (nomark _)))))
          (pss_one (ps_expr (pe_bm0 PySem.F.plainAttrs_list PySem.F.slot_list_pop PySem.F.type_list_pop mt_pop (pv 1))))
          (pss_one (ps_expr (pe_bm PySem.F.plainAttrs_list PySem.F.slot_list_append PySem.F.type_list_append mt_append (pv 1) (pa_cons (pv 3) pa_nil)))))))))
    (pss_one (ps_ret (pe_join pe_str (pv 1)))))), ?_⟩)
  · obtain ⟨a, w, rfl, _⟩ := h; rfl
  · obtain ⟨a, w, rfl, hS, hw, hl, q⟩ := h
    refine ⟨Nat.zero_le _, fun l nl => ?_⟩
    refine ⟨_, rfl, a, rfl, ⟨_, (same_new nl).seq hS⟩, for_list (K := K) (a := a) (xs := [.str (tx w)]) (fun i σ H' => ∃ u v, σ = [some (.ref a), some (.ref l), u, v] ∧ Same H H' ∧ H' l = some (.lst (signs (if i = 0 then [] else red w)))) ⟨none, none, rfl, same_new nl, upd_same⟩ (fun i σ H' _ p => by
      obtain ⟨_, _, _, s1, _⟩ := p
      exact s1.seq hS) (fun i x σ H1 hi p => ?_) (fun σ H1 p => ?_)⟩
    · obtain ⟨u, v, rfl, s1, hk⟩ := p
      have hi0 : i = 0 := by
        have := (List.getElem?_eq_some_iff.mp hi).1
        simpa using this
      subst hi0
      cases hi
      refine ⟨_, rfl, _, rfl, for_it walk_str (fun j σ H' => ∃ v, σ = [some (.ref a), some (.ref l), some (.str (tx w)), v] ∧ Same H H' ∧ H' l = some (.lst (signs ((w.take j).foldl push [])))) ⟨v, rfl, s1, hk⟩ (fun _ _ _ _ _ => trivial) (fun j x σ H2 H3 hj p y => ?_) (fun σ H2 p => ?_)⟩
      · obtain ⟨v, rfl, s2, hk2⟩ := p
        obtain ⟨rfl, c, hc, rfl⟩ := y
        rw [tx_get] at hc
        have hcs : isStep c := hw c (List.mem_of_getElem? hc)
        have hlen : ((w.take j).foldl push []).length ≤ 400 := by
          have h1 := foldl_push_len (w.take j) []
          rw [List.length_take] at h1
          simp only [List.length_nil] at h1
          omega
        have next : ∀ H5, Same H H5 → H5 l = some (.lst (signs (push ((w.take j).foldl push []) c))) → ∃ v, ([some (.ref a), some (.ref l), some (.str (tx w)), some (V.str ⟨#[c]⟩)] : Sl) = [some (.ref a), some (.ref l), some (.str (tx w)), v] ∧ Same H H5 ∧ H5 l = some (.lst (signs ((w.take (j + 1)).foldl push []))) :=
          fun H5 s5 h5 => ⟨_, rfl, s5, by rw [h5, red_take hc]⟩
        have hst : Steps ((w.take j).foldl push []) := fun c hc => by
          rcases foldl_push_mem hc with z | z
          · cases z
          · exact hw c (List.mem_of_mem_take z)
        generalize hacc : (w.take j).foldl push [] = acc at hk2 hlen next hst
        have app : ∀ H5, Same H H5 → H5 l = some (.lst (signs acc)) → ¬ (acc.getLast? = some (inv c)) → ∃ v, ([some (.ref a), some (.ref l), some (.str (tx w)), some (V.str ⟨#[c]⟩)] : Sl) = [some (.ref a), some (.ref l), some (.str (tx w)), v] ∧ Same H (upd H5 l (.lst (signs acc ++ [.str ⟨#[c]⟩]))) ∧ upd H5 l (.lst (signs acc ++ [.str ⟨#[c]⟩])) l = some (.lst (signs ((w.take (j + 1)).foldl push []))) :=
          fun H5 s5 h5 hn => next _ (same_upd s5 nl) (by rw [upd_same]; unfold push; rw [if_neg hn]; simp [signs, ch])
        refine ⟨_, rfl, Nat.zero_le _, fun n nn => ?_⟩
        have nln : l ≠ n := ne_of_none hk2 nn
        have hk3 : upd H3 n (.lst []) l = some (.lst (signs acc)) := by rw [upd_ne nln]; exact hk2
        refine rNe_nil (SqL.of hk3) (signs_plain hst) (SqL.of upd_same) ⟨_, rfl, ?_⟩
        rw [signs_emp]
        cases acc with
        | nil =>
          refine iteF ?_
          refine iteF ?_
          refine ⟨_, rfl, .inl ⟨rfl, _, SqL.of hk3⟩, _, rfl, l, _, _, rfl, rfl, hk3, by decide, ?_⟩
          exact app _ (snew s2 nn) hk3 (by intro z; cases z)
        | cons b bs =>
          obtain ⟨e, he⟩ : ∃ e, (b :: bs).getLast? = some e := ⟨_, List.getLast?_eq_some_getLast (by simp)⟩
          refine iteT ?_
          have hat : atI (signs (b :: bs)) (-1) = some (.str (ch e)) := atI_end (by unfold signs; rw [List.getLast?_map, he]; rfl)
          refine ⟨_, rfl, 1, rfl, l, _, _, _, rfl, rfl, SqL.of hk3, hat, ?_⟩
          refine ⟨_, rfl, rfl, ⟨#[c]⟩, rfl, rfl, ?_, ?_⟩
          · rw [ch_ref, swap_step hcs]; rfl
          rw [ch_ref, swap_step hcs]
          refine ⟨rfl, _, rfl, ?_⟩
          by_cases hp : e = inv c
          · rw [decide_eq_true (show V.str (ch e) = V.str (ch (inv c)) by rw [hp])]
            refine iteT ?_
            refine ⟨_, rfl, .inl ⟨rfl, _, SqL.of hk3⟩, l, _, .str (ch e), rfl, rfl, hk3, ?_, ?_⟩
            · rw [← List.getLast?_eq_getElem?]
              unfold signs; rw [List.getLast?_map, he]; rfl
            · refine next _ (same_upd (snew s2 nn) nl) ?_
              rw [upd_same]; unfold push
              rw [if_pos (by rw [he, hp])]
              unfold signs
              rw [List.map_dropLast]
          · rw [decide_eq_false (show ¬ V.str (ch e) = V.str (ch (inv c)) from fun z => hp (ch_inj (V.str.inj z)))]
            refine iteF ?_
            refine ⟨_, rfl, .inl ⟨rfl, _, SqL.of hk3⟩, _, rfl, l, _, _, rfl, rfl, hk3, ?_, ?_⟩
            · rw [signs_len]; exact Nat.lt_of_le_of_lt hlen (by decide)
            · exact app _ (snew s2 nn) hk3 (by rw [he]; intro z; exact hp (Option.some.inj z))
      · obtain ⟨v, rfl, s2, hk2⟩ := p
        rw [tx_size, List.take_length] at hk2
        exact ⟨_, _, rfl, s2, hk2⟩
    · obtain ⟨u, v, rfl, s1, hk⟩ := p
      have hk' : H1 l = some (.lst (signs (red w))) := hk
      refine ⟨⟨_, rfl⟩, _, rfl, tx [], l, (red w).map ch, congrArg V.str empty_tx, rfl, .inl (SqL.of (by rw [hk']; unfold signs; rw [List.map_map]; rfl)), ?_, ?_⟩
      · have h1 := red_len w
        have e1 : (((red w).map ch).map (·.length)).sum = (red w).length := by
          rw [List.map_map]
          have e2 : ((fun x : Str => x.length) ∘ ch) = fun _ => 1 := rfl
          rw [e2]
          induction red w with
          | nil => rfl
          | cons a l ih => rw [List.map_cons, List.sum_cons, ih, List.length_cons]; omega
        rw [e1, List.length_map, tx_len]
        have e3 : ([] : List Nat).length = 0 := rfl
        rw [e3]
        omega
      · rw [join_signs]
        exact q _ s1
end
end K73
set_option Elab.async false
set_option linter.all false
set_option maxRecDepth 100000
set_option maxHeartbeats 2000000
/-! K73W2: reduced_generator; the law's paths. -/
namespace K73
open PySem PySem.Spec PyProof.Rows L2
abbrev lBack : Stmt := topS 49
abbrev lRev : Stmt := topS 50
abbrev lShort : Stmt := topS 51
abbrev lIsInt : Stmt := topS 58
def spRedGen : Sp := fun vs H Q _ => ∃ w : List Nat, vs = [.str (tx w)] ∧ Steps w ∧ w.length ≤ 60 ∧ ∀ H', Same H H' → Q (.str (tx (red w))) H'
def spBack : Sp := fun vs H Q _ => ∃ c : Nat, vs = [.str (ch c)] ∧ isStep c ∧ Q (.str (ch (inv c))) H
def invW (w : List Nat) : List Nat := (w.reverse).map inv
def spRev : Sp := fun vs H Q _ => ∃ w : List Nat, vs = [.str (tx w)] ∧ Steps w ∧ w.length ≤ 400 ∧ ∀ H', Same H H' → Q (.str (tx (invW w))) H'
def spShort : Sp := fun vs H Q _ => ∃ w : List Nat, vs = [.str (tx w)] ∧ Steps w ∧ w.length ≤ 400 ∧ ∀ H', Same H H' → Q (.str (tx (red w))) H'
theorem cut_last (w : List Nat) : cutS (tx w) none (some (-1)) = tx w.dropLast := by
  unfold cutS
  rw [tx_cps, tx_len]
  show (⟨((w.drop 0).take (HT.sIx w.length w.length (some (-1)) - 0)).toArray⟩ : Str) = _
  have e : HT.sIx w.length w.length (some (-1)) = w.length - 1 := by
    unfold HT.sIx
    first | rfl | (simp; omega) | (split <;> omega)
  rw [e, List.drop_zero, Nat.sub_zero, List.dropLast_eq_take]
  rfl
section
variable {P : Program} {w : World} {K : PySem.W.Frag} {mg : Str → Option Value} {base : Heap} {f : Addr} {fd : FuncData}
theorem scRedGen : FnScope ["path", "result"] ["path"] (defScope sRedGen) := ⟨rfl, rfl, rfl, by decide +kernel, rfl, by decide +kernel, by decide +kernel⟩
theorem ok_redGen (F : FnP K "reduced_generator" sRedGen f fd) (T : Bi mg) (Z : Has P w K mg base 1 "reduce_all" ["parts"] (spReduce K)) : FnOk P w K mg base CX0 2 f fd ["path"] spRedGen := by
  refine F.ok scRedGen (fun vs H Q E h => ?_) (fun cdv A outer s H vs Q E hr h => ⟨_, PSs.nox (pss_cons (ps_set (i := 1) scRedGen.nd rfl (Or.inl rfl) (pe_h Z hr (pa_cons (pe_lst (pa_cons (pv 0) pa_nil)) pa_nil)))
    (pss_cons (ps_if (pt_cmpR op_gt (pe_callB call_len_str rfl T.len PySem.boot_len (pa_cons (pv 1) pa_nil)) (pe_const T.MAX_GENERATOR_STEPS) (nomark _)) (pss_one ps_never) pss_nil)
    (pss_one (ps_ret (pv 1))))), ?_⟩)
  · obtain ⟨w, rfl, _⟩ := h; rfl
  · obtain ⟨w, rfl, hw, hl, q⟩ := h
    refine ⟨_, rfl, (by show 1 ≤ sizeLine; decide), fun a na => ?_⟩
    refine ⟨a, w, rfl, SqL.of upd_same, hw, by omega, fun H1 s1 => ?_⟩
    have h1 := red_len w
    refine ⟨_, rfl, _, rfl, (by rw [tx_len]; exact Nat.le_trans h1 (Nat.le_trans hl (by decide))), _, _, rfl, rfl, _, rfl, ?_⟩
    rw [tx_len, decide_eq_false (show ¬ (((red w).length : Nat) : Int) > 60 by omega)]
    refine iteF ?_
    exact ⟨_, rfl, q _ ((same_new na).trans s1)⟩
theorem scBack : FnScope ["_law_step"] ["_law_step"] (defScope lBack) := ⟨rfl, rfl, rfl, by decide +kernel, rfl, by decide +kernel, by decide +kernel⟩
theorem back_occ {c : Nat} (h : isStep c) : ∃ i r, Builtin.Str.occurrences ("aAbBcCdD" : Str) (ch c) 0 ("aAbBcCdD" : Str).length 1 = i :: r ∧ atI ("aAbBcCdD" : Str).cps.toList (Builtin.bitXor ((i : Nat) : Int) 1) = some (inv c) := by
  rcases h with rfl | rfl | rfl | rfl | rfl | rfl | rfl | rfl
  · exact ⟨0, [], by decide +kernel, by decide +kernel⟩
  · exact ⟨1, [], by decide +kernel, by decide +kernel⟩
  · exact ⟨2, [], by decide +kernel, by decide +kernel⟩
  · exact ⟨3, [], by decide +kernel, by decide +kernel⟩
  · exact ⟨4, [], by decide +kernel, by decide +kernel⟩
  · exact ⟨5, [], by decide +kernel, by decide +kernel⟩
  · exact ⟨6, [], by decide +kernel, by decide +kernel⟩
  · exact ⟨7, [], by decide +kernel, by decide +kernel⟩
theorem ok_back (F : FnP K "_law_back" lBack f fd) : FnOk P w K mg base CX0 1 f fd ["_law_step"] spBack := by
  refine F.ok scBack (fun vs H Q E h => ?_) (fun cdv A outer s H vs Q E hr h => ⟨_, PSs.nox (pss_one (ps_ret (pe_ix ix_str pe_str (pe_op op_xor (pe_bm PySem.F.plainAttrs_str PySem.F.slot_str_index PySem.F.type_str_index mt_sindex pe_str (pa_cons (pv 0) pa_nil)) pe_int) (fun _ _ => rfl)))), ?_⟩)
  · obtain ⟨c, rfl, _⟩ := h; rfl
  · obtain ⟨c, rfl, hc, q⟩ := h
    obtain ⟨i, r, e1, e2⟩ := back_occ hc
    exact ⟨rfl, _, rfl, _, _, i, r, rfl, rfl, e1, _, _, rfl, rfl, _, _, _, rfl, rfl, (by decide +kernel), e2, q⟩
theorem scRev : FnScope ["_law_path_here", "_law_step"] ["_law_path_here"] (defScope lRev) := ⟨rfl, rfl, rfl, by decide +kernel, rfl, by decide +kernel, by decide +kernel⟩
theorem ok_rev (F : FnP K "_law_reversed" lRev f fd) (Z : Has P w K mg base 1 "_law_back" ["_law_step"] spBack) : FnOk P w K mg base CX0 2 f fd ["_law_path_here"] spRev := by
  refine F.ok scRev (fun vs H Q E h => ?_) (fun cdv A outer s H vs Q E hr h => ⟨_, PSs.nox (pss_one (ps_ret (pe_join pe_str (pe_lc (own := [("_law_step", 1)]) (g := gName 1) (tt := tYes) rfl scRev.nd (pi_str (pe_revS (pv 0))) (blkOk_by (N := ["_law_path_here", "_law_step"]) (sc := defScope lRev) (by decide +kernel))
          (fun _ _ _ _ _ => pg_name (i := 1) scRev.nd rfl (Or.inl rfl)) (fun _ _ _ _ _ => pts_nil) (fun _ _ _ _ _ => pe_h Z hr (pa_cons (pv 1) pa_nil)))))), ?_⟩)
  · obtain ⟨w, rfl, _⟩ := h; rfl
  · obtain ⟨w, rfl, hw, hl, q⟩ := h
    have er : revS (tx w) = tx w.reverse := by unfold revS; rw [tx_cps]; rfl
    refine ⟨⟨_, rfl⟩, _, rfl, _, rfl, (by rw [tx_len]; exact Nat.le_trans hl (by decide)), _, rfl, fun D hD => ?_⟩
    rw [er]
    refine lc_map walk_str (fun i => ((w.reverse[i]?).map fun c => V.str (ch (inv c))).getD .non) (by rw [tx_size, List.length_reverse]; exact Nat.le_trans hl (by decide)) (fun _ _ => trivial) hD (fun i x H1 H2 Q2 hi s1 y k => ?_) (fun H1 s1 d1 => ?_)
    · obtain ⟨rfl, c, hc, rfl⟩ := y
      rw [tx_get] at hc
      refine ⟨rfl, _, rfl, c, rfl, hw c (List.mem_reverse.mp (List.mem_of_getElem? hc)), ?_⟩
      have k' := k _ (Same.refl _)
      rw [hc] at k'
      exact k'
    · rw [tx_size, range_map_get] at d1
      refine ⟨tx [], D, (invW w).map ch, congrArg V.str empty_tx, rfl, .inl (SqL.of (by rw [d1]; unfold invW; rw [List.map_map, List.map_map]; rfl)), ?_, ?_⟩
      · rw [sum_ch, List.length_map, tx_len]
        have e3 : ([] : List Nat).length = 0 := rfl
        have e4 : (invW w).length = w.length := by unfold invW; rw [List.length_map, List.length_reverse]
        rw [e3, e4]
        omega
      · rw [join_signs]
        exact q _ s1
theorem scShort : FnScope ["_law_path_here", "_law_result", "_law_step"] ["_law_path_here"] (defScope lShort) := ⟨rfl, rfl, rfl, by decide +kernel, rfl, by decide +kernel, by decide +kernel⟩
theorem ok_short (F : FnP K "_law_short" lShort f fd) (Z : Has P w K mg base 1 "_law_back" ["_law_step"] spBack) : FnOk P w K mg base CX0 2 f fd ["_law_path_here"] spShort := by
  refine F.ok scShort (fun vs H Q E h => ?_) (fun cdv A outer s H vs Q E hr h => ⟨_, PSs.nox (pss_cons (ps_set (i := 1) scShort.nd rfl (Or.inl rfl) pe_str)
    (pss_cons (ps_for PassesOwn.never rfl (pi_str (pv 0)) (pg_name (i := 2) scShort.nd rfl (Or.inl rfl))
        (pss_one (ps_if (PW.pt (pw_and (pt_cmpR op_ne (pv 1) pe_str (nomark _)) (pw_and1 (pt_cmpR op_eq (pe_ix ix_str (pv 1) (pe_un un_neg pe_int) (fun _ _ => rfl)) (pe_h Z hr (pa_cons (pv 2) pa_nil)) (nomark _)))))
          (pss_one (ps_set (i := 1) scShort.nd rfl (Or.inl rfl) (pe_slice sl_str (pv 1) po_none (po_some (pe_un un_neg pe_int)))))
          (pss_one (ps_set (i := 1) scShort.nd rfl (Or.inl rfl) (pe_op op_add_str (pv 1) (pv 2)))))))
    (pss_one (ps_ret (pv 1))))), ?_⟩)
  · obtain ⟨w, rfl, _⟩ := h; rfl
  · obtain ⟨w, rfl, hw, hl, q⟩ := h
    refine ⟨_, rfl, _, rfl, for_it walk_str (fun i σ H' => ∃ u, σ = [some (.str (tx w)), some (.str (tx ((w.take i).foldl push []))), u] ∧ Same H H') ⟨none, (by show ([some (V.str (tx w)), some (V.str ("" : Str)), none] : Sl) = _; rw [empty_tx]; rfl), Same.refl H⟩ (fun _ _ _ _ _ => trivial) (fun j x σ H2 H3 hj p y => ?_) (fun σ H2 p => ?_)⟩
    · obtain ⟨u, rfl, s2⟩ := p
      obtain ⟨rfl, c, hc, rfl⟩ := y
      rw [tx_get] at hc
      have hcs : isStep c := hw c (List.mem_of_getElem? hc)
      have hlen : ((w.take j).foldl push []).length ≤ 400 := by
        have h1 := foldl_push_len (w.take j) []
        rw [List.length_take] at h1
        simp only [List.length_nil] at h1
        omega
      have next : ∀ z, z = push ((w.take j).foldl push []) c → ∃ u, ([some (.str (tx w)), some (.str (tx z)), some (V.str ⟨#[c]⟩)] : Sl) = [some (.str (tx w)), some (.str (tx ((w.take (j + 1)).foldl push []))), u] ∧ Same H H3 :=
        fun z e => by
          subst e
          exact ⟨_, by rw [red_take hc], s2⟩
      generalize hacc : (w.take j).foldl push [] = acc at hlen next
      have app : acc.getLast? ≠ some (inv c) → ∃ u, ([some (.str (tx w)), some (.str (tx acc ++ ch c)), some (V.str ⟨#[c]⟩)] : Sl) = [some (.str (tx w)), some (.str (tx ((w.take (j + 1)).foldl push []))), u] ∧ Same H H3 := fun hn => by
        have e : tx acc ++ ch c = tx (acc ++ [c]) := tx_app acc [c]
        rw [e]
        exact next _ (by unfold push; rw [if_neg hn])
      have room : (tx acc).length + (⟨#[c]⟩ : Str).length ≤ sizeLine := by
        rw [tx_len]
        show acc.length + 1 ≤ _
        exact Nat.le_trans (Nat.succ_le_succ hlen) (by decide)
      refine ⟨_, rfl, rfl, _, rfl, ?_⟩
      cases acc with
      | nil =>
        have e0 : (!decide (V.str (tx []) = V.str ("" : Str))) = false := by rw [empty_tx]; simp
        rw [e0]
        refine iteF (iteF ?_)
        exact ⟨_, rfl, _, rfl, _, _, rfl, rfl, room, app (by intro z; cases z)⟩
      | cons b bs =>
        have e0 : (!decide (V.str (tx (b :: bs)) = V.str ("" : Str))) = true := by
          rw [decide_eq_false (fun z => by
            rw [empty_tx] at z
            have := tx_inj (V.str.inj z)
            cases this)]
          rfl
        obtain ⟨e, he⟩ : ∃ e, (b :: bs).getLast? = some e := ⟨_, List.getLast?_eq_some_getLast (by simp)⟩
        rw [e0]
        refine iteT ?_
        refine ⟨_, rfl, 1, rfl, _, _, e, rfl, rfl, (by rw [tx_len]; exact Nat.le_trans hlen (by decide)), (by rw [tx_cps]; exact atI_end he), ?_⟩
        refine ⟨_, rfl, c, rfl, hcs, rfl, _, rfl, ?_⟩
        refine iteD (fun hp => ?_) fun hp => ?_
        · have hp : e = inv c := ch_inj (V.str.inj hp)
          refine ⟨_, rfl, 1, rfl, _, rfl, _, rfl, (by rw [tx_len]; exact Nat.le_trans hlen (by decide)), ?_⟩
          rw [cut_last]
          exact next _ (by unfold push; rw [if_pos (by rw [he, hp])])
        · exact ⟨_, rfl, _, rfl, _, _, rfl, rfl, room, app (by rw [he]; intro z; exact hp (congrArg (fun c => V.str (ch c)) (Option.some.inj z)))⟩
    · obtain ⟨u, rfl, s2⟩ := p
      refine ⟨_, rfl, ?_⟩
      rw [tx_size, List.take_length]
      exact q _ s2
theorem scLIsInt : FnScope ["_law_value"] ["_law_value"] (defScope lIsInt) := ⟨rfl, rfl, rfl, by decide +kernel, rfl, by decide +kernel, by decide +kernel⟩
theorem ok_lIsInt (F : FnP K "_law_is_integer" lIsInt f fd) (T : Bi mg) : FnOk P w K mg base CX0 1 f fd ["_law_value"] spIsInt := by
  refine F.ok scLIsInt (fun vs H Q E h => ?_) (fun cdv A outer s H vs Q E hr h => ⟨_, PSs.nox (pss_one (ps_ret (pe_and (pe_callB call_isi rfl T.isinstance (by decide +kernel) (pa_cons (pv 0) (pa_cons (pe_bltn (v := .ty "int") rfl T.int (by decide +kernel) rfl) pa_nil)))
      (pe_one (pe_not (pe_callB call_isi rfl T.isinstance (by decide +kernel) (pa_cons (pv 0) (pa_cons (pe_bltn (v := .ty "bool") rfl T.bool (by decide +kernel) rfl) pa_nil)))))))), ?_⟩)
  · obtain ⟨i, rfl, _⟩ := h; rfl
  · obtain ⟨i, rfl, q⟩ := h
    refine ⟨_, rfl, _, _, _, _, true, rfl, .ty "int", .base (.int i), kit_ty (by decide +kernel), ?_⟩
    refine ⟨true, rfl, ?_⟩
    refine iteT ?_
    refine ⟨_, rfl, _, _, _, _, false, rfl, .ty "bool", .base (.int i), kit_ty (by decide +kernel), ?_⟩
    exact ⟨false, rfl, q⟩
end
end K73
set_option Elab.async false
set_option linter.all false
set_option maxRecDepth 100000
set_option maxHeartbeats 2000000
/-! K73LF: a labelled folding as it stands in the heap. -/
namespace K73
open PySem PySem.Spec PyProof.Rows L2
/-! ### methods -/
structure HasM (P : Program) (w : World) (K : PySem.W.Frag) (mg : Str → Option Value) (base : Heap) (k : Nat) (C : Addr) (m : Str) (ps : List Str) (sp : Sp) : Prop where
  ex : ∃ (f : Addr) (fd : FuncData), Meth K C m f ∧ Binds K fd ps [] ∧ FnOk P w K mg base CX0 k f fd ps sp
section
variable {X : Cx} {k : Nat} {ps : List Str} {sp : Sp} {C : Addr} {m : Str} {pos apos : Pos} {e o : Expr} {es : List Expr} {ta : TE} {t : TA}
theorem pe_hm {pl : Sem Bool} (Z : HasM X.prog X.w X.K X.mg X.base k C m ps sp) (c : Cls X.K C) (hr : Room k X.A) (he : PE X o ta) (ha : PA X (e :: es) t)
    (hst : starEach (e :: es) X.env = (false, eval e X.env) :: starEach es X.env := by rfl) (hpl : (backTo pos (starEach es X.env)).any (·.1) = false := by rfl)
    (ht : eval (.Call (.Attribute o m apos) (e :: es) [] pos) X.env = (do
      let ov ← eval o X.env
      standAt apos.atName
      let (f, first) ← holding [ov] (getMethod ov m pl)
      callWith pos f first (backTo pos (starEach (e :: es) X.env)) (backToKw pos (keywordEach [] X.env))) := by rfl) : PE X (.Call (.Attribute o m apos) (e :: es) [] pos) (tMeth C m sp [] E0 ta t) := by
  obtain ⟨f, fd, mt, b, G⟩ := Z.ex
  exact pe_meth he c mt G hr b .nil pass0 ha hst hpl ht
theorem pe_hm0 {pl : Sem Bool} (Z : HasM X.prog X.w X.K X.mg X.base k C m ps sp) (c : Cls X.K C) (hr : Room k X.A) (he : PE X o ta)
    (ht : eval (.Call (.Attribute o m apos) [] [] pos) X.env = (do
      let ov ← eval o X.env
      standAt apos.atName
      let (f, first) ← holding [ov] (getMethod ov m pl)
      callWith pos f first (backTo pos (starEach [] X.env)) (backToKw pos (keywordEach [] X.env))) := by rfl) : PE X (.Call (.Attribute o m apos) [] [] pos) (tMeth C m sp [] E0 ta tNil) := by
  obtain ⟨f, fd, mt, b, G⟩ := Z.ex
  exact pe_meth0 he c mt G hr b .nil pass0 ht
end
/-! ### the fields -/
structure LFA where
  p : Addr
  dx : Addr
  l : Addr
  t : Addr
  m : Addr
  q : Addr
def lff (o : LFA) (n : Nat) : List (Str × V) := [("lines", .ref o.l), ("targets_of", .ref o.t), ("merged", .ref o.m), ("next_node", .int (n : Nat)), ("pending", .ref o.q)]
theorem lk_eq {k : Str} {v : V} {r : List (Str × V)} : List.lookup k ((k, v) :: r) = some v := by simp [List.lookup]
theorem lk_ne {k a : Str} {v : V} {r : List (Str × V)} (h : (a == k) = false) : List.lookup a ((k, v) :: r) = List.lookup a r := by simp [List.lookup, h]
theorem lff_l {o : LFA} {n : Nat} : (lff o n).lookup ("lines" : Str) = some (.ref o.l) := lk_eq
theorem lff_t {o : LFA} {n : Nat} : (lff o n).lookup ("targets_of" : Str) = some (.ref o.t) := (lk_ne (by decide +kernel)).trans lk_eq
theorem lff_m {o : LFA} {n : Nat} : (lff o n).lookup ("merged" : Str) = some (.ref o.m) := (lk_ne (by decide +kernel)).trans ((lk_ne (by decide +kernel)).trans lk_eq)
theorem lff_n {o : LFA} {n : Nat} : (lff o n).lookup ("next_node" : Str) = some (.int (n : Nat)) := (lk_ne (by decide +kernel)).trans ((lk_ne (by decide +kernel)).trans ((lk_ne (by decide +kernel)).trans lk_eq))
theorem lff_q {o : LFA} {n : Nat} : (lff o n).lookup ("pending" : Str) = some (.ref o.q) := (lk_ne (by decide +kernel)).trans ((lk_ne (by decide +kernel)).trans ((lk_ne (by decide +kernel)).trans ((lk_ne (by decide +kernel)).trans lk_eq)))
def lfNames : List Str := ["lines", "targets_of", "merged", "next_node", "pending"]
theorem lff_no {o : LFA} {n : Nat} {m : Str} (h : (lfNames.map fun k => m == k) = [false, false, false, false, false]) : (lff o n).lookup m = none := by
  simp only [lfNames, List.map_cons, List.map_nil, List.cons.injEq, and_true] at h
  obtain ⟨h1, h2, h3, h4, h5⟩ := h
  exact (lk_ne h1).trans ((lk_ne h2).trans ((lk_ne h3).trans ((lk_ne h4).trans (lk_ne h5))))
theorem putF_eq {k : Str} {v w : V} {r : List (Str × V)} : putF k w ((k, v) :: r) = (k, w) :: r := by
  show (if k = k then _ else _) = _
  rw [if_pos rfl]
theorem putF_ne {k a : Str} {v w : V} {r : List (Str × V)} (h : ¬ k = a) : putF a w ((k, v) :: r) = (k, v) :: putF a w r := by
  show (if k = a then _ else _) = _
  rw [if_neg h]
theorem lff_put {o : LFA} {n m : Nat} : putF "next_node" (.int (m : Nat)) (lff o n) = lff o m := by
  unfold lff
  rw [putF_ne (by decide +kernel), putF_ne (by decide +kernel), putF_ne (by decide +kernel), putF_eq]
theorem lff_len {o : LFA} {n : Nat} : (lff o n).length < 1000 := by show 5 < 1000; decide
/-- the facts of the class -/
structure LFT (K : PySem.W.Frag) (C : Addr) : Prop where
  cl : Cls K C
  nl : NoAttr K C "lines"
  nt : NoAttr K C "targets_of"
  nm : NoAttr K C "merged"
  nn : NoAttr K C "next_node"
  nq : NoAttr K C "pending"
/-! ### labels, lines, keys -/
def Lab (n : Nat) (v : V) : Prop := v = .non ∨ ∃ i : Nat, v = .int (i : Nat) ∧ i < n
theorem Lab.mono {n m : Nat} {v : V} (h : Lab n v) (hm : n ≤ m) : Lab m v := by
  rcases h with h | ⟨i, e, hi⟩
  · exact .inl h
  · exact .inr ⟨i, e, Nat.lt_of_lt_of_le hi hm⟩
theorem Lab.at {n : Nat} {i : Nat} (h : i < n) : Lab n (.int (i : Nat)) := .inr ⟨i, rfl, h⟩
/-- a line's content: a generator's number, or one or two earlier lines -/
inductive LineC : Nat → List V → Prop where
  | gen (i j : Nat) : LineC i [.str "generator", .int (j : Nat)]
  | inv {i a : Nat} (h : a < i) : LineC i [.str "inverse", .int (a : Nat)]
  | prod {i a b : Nat} (ha : a < i) (hb : b < i) : LineC i [.str "product", .int (a : Nat), .int (b : Nat)]
def LineOk (H : Hp) (i : Nat) (v : V) : Prop := ∃ b xs, v = .ref b ∧ H b = some (.tup xs) ∧ LineC i xs
def key (u c : Nat) : List L2.Key := [.inl (u : Nat), .inr (ch c)]
theorem key_inj {u c u' c' : Nat} (h : key u c = key u' c') : u = u' ∧ c = c' := by
  unfold key at h
  simp only [List.cons.injEq, Sum.inl.injEq, Sum.inr.injEq, and_true] at h
  exact ⟨by have := h.1; omega, ch_inj h.2⟩
def TRel (H : Hp) (n : Nat) (kT : List (List L2.Key × V)) (E : Gr) : Prop := ∀ u c,
  (∀ v, E u c = some v → ∃ b lab, valV kT (key u c) = some (.ref b) ∧ H b = some (.tup [.int (v : Nat), lab]) ∧ Lab n lab) ∧ (E u c = none → valV kT (key u c) = none)
def MRel (H : Hp) (n : Nat) (kM : List (L2.Key × V)) (M : Mg) : Prop := ∀ r,
  (∀ k, M r = some k → ∃ b lab, valV kM (.inl (r : Nat)) = some (.ref b) ∧ H b = some (.tup [.int (k : Nat), lab]) ∧ Lab n lab) ∧ (M r = none → valV kM (.inl (r : Nat)) = none)
def PRel (H : Hp) (n : Nat) (LP : List V) (P : Pd) : Prop := LP.length = P.length ∧ ∀ (i : Nat) (p : Nat × Nat), P[i]? = some p → ∃ (b : Addr) (lab : V), LP[i]? = some (V.ref b) ∧ H b = some (.tup [.int (p.1 : Nat), .int (p.2 : Nat), lab]) ∧ Lab n lab
/-- tuples stay -/
def TupS (H H' : Hp) : Prop := ∀ b xs, H b = some (.tup xs) → H' b = some (.tup xs)
theorem samT {H H' : Hp} (s : Same H H') : TupS H H' := fun b xs h => s b _ h
theorem TRel.to {H H' : Hp} {n m : Nat} {kT : List (List L2.Key × V)} {E : Gr} (r : TRel H n kT E) (s : TupS H H') (h : n ≤ m) : TRel H' m kT E := fun u c =>
  ⟨fun v e => let ⟨b, lab, h1, h2, h3⟩ := (r u c).1 v e; ⟨b, lab, h1, s _ _ h2, h3.mono h⟩, (r u c).2⟩
theorem MRel.to {H H' : Hp} {n m : Nat} {kM : List (L2.Key × V)} {M : Mg} (r : MRel H n kM M) (s : TupS H H') (h : n ≤ m) : MRel H' m kM M := fun u =>
  ⟨fun v e => let ⟨b, lab, h1, h2, h3⟩ := (r u).1 v e; ⟨b, lab, h1, s _ _ h2, h3.mono h⟩, (r u).2⟩
theorem PRel.to {H H' : Hp} {n m : Nat} {LP : List V} {P : Pd} (r : PRel H n LP P) (s : TupS H H') (h : n ≤ m) : PRel H' m LP P :=
  ⟨r.1, fun i p e => let ⟨b, lab, h1, h2, h3⟩ := r.2 i p e; ⟨b, lab, h1, s _ _ h2, h3.mono h⟩⟩
theorem PRel.push {H : Hp} {n : Nat} {LP : List V} {P : Pd} (r : PRel H n LP P) {b : Addr} {u v : Nat} {lab : V} (hb : H b = some (.tup [.int (u : Nat), .int (v : Nat), lab])) (hl : Lab n lab) : PRel H n (LP ++ [.ref b]) (P ++ [(u, v)]) := by
  refine ⟨by rw [List.length_append, List.length_append, r.1]; rfl, fun i p e => ?_⟩
  rw [List.getElem?_append] at e ⊢
  rw [r.1]
  split at e
  · rename_i hi
    rw [if_pos hi]
    exact r.2 i p e
  · rename_i hi
    rw [if_neg hi]
    cases q : i - P.length with
    | zero =>
      rw [q] at e
      cases e
      exact ⟨b, lab, rfl, hb, hl⟩
    | succ j =>
      rw [q] at e
      cases e
theorem PRel.pop {H : Hp} {n : Nat} {LP : List V} {P : Pd} {p : Nat × Nat} (r : PRel H n LP (P ++ [p])) : ∃ b lab, LP[LP.length - 1]? = some (.ref b) ∧ H b = some (.tup [.int (p.1 : Nat), .int (p.2 : Nat), lab]) ∧ Lab n lab ∧ PRel H n LP.dropLast P := by
  have hl : LP.length = P.length + 1 := by rw [r.1, List.length_append]; rfl
  obtain ⟨b, lab, h1, h2, h3⟩ := r.2 P.length p (by rw [List.getElem?_append_right (Nat.le_refl _)]; simp)
  refine ⟨b, lab, by rw [hl]; exact h1, h2, h3, by rw [List.length_dropLast, hl]; rfl, fun i q e => ?_⟩
  have hi : i < P.length := (List.getElem?_eq_some_iff.mp e).1
  obtain ⟨b', lab', k1, k2, k3⟩ := r.2 i q (by rw [List.getElem?_append_left hi]; exact e)
  exact ⟨b', lab', by rw [List.getElem?_dropLast, hl, if_pos (by omega)]; exact k1, k2, k3⟩
theorem TRel.put {H : Hp} {n : Nat} {kT : List (List L2.Key × V)} {E : Gr} (r : TRel H n kT E) {u c v : Nat} {b : Addr} {lab : V} (hb : H b = some (.tup [.int (v : Nat), lab])) (hl : Lab n lab) : TRel H n (putK kT (key u c) (.ref b)) (setG E u c v) := fun x d => by
  rw [valV_put]
  by_cases z : x = u ∧ d = c
  · obtain ⟨rfl, rfl⟩ := z
    rw [if_pos rfl, setG_same]
    exact ⟨fun w e => ⟨b, lab, rfl, by rw [← Option.some.inj e]; exact hb, hl⟩, fun e => by cases e⟩
  · rw [if_neg (fun e => z (key_inj e)), setG_ne z]
    exact r x d
def outG (E : Gr) (u c : Nat) : Gr := fun x d => if x = u ∧ d = c then none else E x d
theorem valV_drop {κ : Type} [DecidableEq κ] (kvs : List (κ × V)) (k j : κ) : valV (dropK kvs k) j = if j = k then none else valV kvs j := by
  induction kvs with
  | nil => split <;> rfl
  | cons p r ih =>
    by_cases e : p.1 = k
    · rw [dropK_pos e, ih]
      split
      · rfl
      · rename_i h
        rw [valV_neg (fun z => h (z.symm.trans e))]
    · rw [dropK_neg e]
      by_cases z : p.1 = j
      · rw [valV_pos z, valV_pos z, if_neg (fun h => e (z.trans h))]
      · rw [valV_neg z, valV_neg z, ih]
theorem TRel.drop {H : Hp} {n : Nat} {kT : List (List L2.Key × V)} {E : Gr} (r : TRel H n kT E) {u c : Nat} : TRel H n (dropK kT (key u c)) (outG E u c) := fun x d => by
  rw [valV_drop]
  unfold outG
  by_cases z : x = u ∧ d = c
  · obtain ⟨rfl, rfl⟩ := z
    rw [if_pos rfl, if_pos ⟨rfl, rfl⟩]
    exact ⟨fun _ e => (by cases e), fun _ => rfl⟩
  · rw [if_neg (fun e => z (key_inj e)), if_neg z]
    exact r x d
theorem MRel.put {H : Hp} {n : Nat} {kM : List (L2.Key × V)} {M : Mg} (r : MRel H n kM M) {u v : Nat} {b : Addr} {lab : V} (hb : H b = some (.tup [.int (v : Nat), lab])) (hl : Lab n lab) : MRel H n (putK kM (.inl (u : Nat)) (.ref b)) (setM M u v) := fun x => by
  rw [valV_put]
  unfold setM
  by_cases z : x = u
  · subst z
    rw [if_pos rfl, if_pos rfl]
    exact ⟨fun w e => ⟨b, lab, rfl, by rw [← Option.some.inj e]; exact hb, hl⟩, fun e => by cases e⟩
  · have ne : ¬ ((Sum.inl (x : Int) : L2.Key) = Sum.inl (u : Int)) := fun e => z (by have := Sum.inl.inj e; omega)
    rw [if_neg ne, if_neg z]
    exact r x
theorem len_drop {κ : Type} [DecidableEq κ] {kvs : List (κ × V)} {k : κ} {v : V} (h : valV kvs k = some v) : (dropK kvs k).length + 1 ≤ kvs.length := by
  induction kvs with
  | nil => cases h
  | cons p r ih =>
    by_cases e : p.1 = k
    · rw [dropK_pos e]
      exact Nat.succ_le_succ (dropK_le r k)
    · rw [valV_neg e] at h
      rw [dropK_neg e]
      exact Nat.succ_le_succ (ih h)
theorem len_put {κ : Type} [DecidableEq κ] {kvs : List (κ × V)} {k : κ} {v x : V} (h : valV kvs k = some x) : (putK kvs k v).length = kvs.length := by
  unfold putK
  rw [valV_any, h]
  simp
/-! ### the whole folding -/
structure LFV (C : Addr) (o : LFA) (H : Hp) (LS : List V) (kT : List (List L2.Key × V)) (kM : List (L2.Key × V)) (LP : List V) (nx : Nat) : Prop where
  p : H o.p = some (.ins C o.dx (lff o nx))
  l : H o.l = some (.lst LS)
  t : H o.t = some (.dT kT)
  m : H o.m = some (.dK kM)
  q : H o.q = some (.lst LP)
  lq : o.l ≠ o.q
  ok : ∀ i v, LS[i]? = some v → LineOk H i v
structure LFB (C : Addr) (o : LFA) (H : Hp) (E : Gr) (M : Mg) (P : Pd) (nx nl nt nm : Nat) : Prop where
  ex : ∃ LS kT kM LP, LFV C o H LS kT kM LP nx ∧ LS.length = nl ∧ kT.length = nt ∧ kM.length = nm ∧ TRel H nl kT E ∧ MRel H nl kM M ∧ PRel H nl LP P
/-- all but the folding stays -/
def Fr (o : LFA) (H H' : Hp) : Prop := ∀ b u, H b = some u → b ≠ o.p → b ≠ o.l → b ≠ o.t → b ≠ o.m → b ≠ o.q → H' b = some u
theorem Fr.refl {o : LFA} {H : Hp} : Fr o H H := fun _ _ h _ _ _ _ _ => h
theorem Fr.trans {o : LFA} {H H1 H2 : Hp} (a : Fr o H H1) (b : Fr o H1 H2) : Fr o H H2 := fun c u h h1 h2 h3 h4 h5 => b c u (a c u h h1 h2 h3 h4 h5) h1 h2 h3 h4 h5
theorem Fr.of {o : LFA} {H H' : Hp} (s : Same H H') : Fr o H H' := fun b u h _ _ _ _ _ => s b u h
section
variable {C : Addr} {o : LFA} {H H' : Hp} {LS : List V} {kT : List (List L2.Key × V)} {kM : List (L2.Key × V)} {LP : List V} {nx : Nat} {E : Gr} {M : Mg} {P : Pd} {nl nt nm : Nat}
theorem LFV.tup (V0 : LFV C o H LS kT kM LP nx) {b : Addr} {xs : List V} (h : H b = some (.tup xs)) : b ≠ o.p ∧ b ≠ o.l ∧ b ≠ o.t ∧ b ≠ o.m ∧ b ≠ o.q :=
  ⟨ne_of h V0.p (by intro z; cases z), ne_of h V0.l (by intro z; cases z), ne_of h V0.t (by intro z; cases z), ne_of h V0.m (by intro z; cases z), ne_of h V0.q (by intro z; cases z)⟩
theorem LFV.frt (V0 : LFV C o H LS kT kM LP nx) (f : Fr o H H') : TupS H H' := fun b xs h => let ⟨h1, h2, h3, h4, h5⟩ := V0.tup h; f b _ h h1 h2 h3 h4 h5
theorem LFV.same (V0 : LFV C o H LS kT kM LP nx) (s : Same H H') : LFV C o H' LS kT kM LP nx :=
  ⟨s _ _ V0.p, s _ _ V0.l, s _ _ V0.t, s _ _ V0.m, s _ _ V0.q, V0.lq, fun i v e => let ⟨b, xs, h1, h2, h3⟩ := V0.ok i v e; ⟨b, xs, h1, s _ _ h2, h3⟩⟩
theorem LFB.same (B : LFB C o H E M P nx nl nt nm) (s : Same H H') : LFB C o H' E M P nx nl nt nm := by
  obtain ⟨LS, kT, kM, LP, V0, h1, h2, h3, h4, h5, h6⟩ := B.ex
  exact ⟨LS, kT, kM, LP, V0.same s, h1, h2, h3, h4.to (samT s) (Nat.le_refl _), h5.to (samT s) (Nat.le_refl _), h6.to (samT s) (Nat.le_refl _)⟩
/-- stores to the five places -/
theorem LFV.addL (V0 : LFV C o H LS kT kM LP nx) {b : Addr} {xs : List V} (hb : H b = some (.tup xs)) (hc : LineC LS.length xs) : LFV C o (upd H o.l (.lst (LS ++ [.ref b]))) (LS ++ [.ref b]) kT kM LP nx := by
  have ts : ∀ c ys, H c = some (.tup ys) → upd H o.l (.lst (LS ++ [.ref b])) c = some (.tup ys) := fun c ys h => by rw [upd_ne (V0.tup h).2.1]; exact h
  refine ⟨by rw [upd_ne (ne_of V0.p V0.l (by intro z; cases z))]; exact V0.p, upd_same, by rw [upd_ne (ne_of V0.t V0.l (by intro z; cases z))]; exact V0.t, by rw [upd_ne (ne_of V0.m V0.l (by intro z; cases z))]; exact V0.m, by rw [upd_ne V0.lq.symm]; exact V0.q, V0.lq, fun i v e => ?_⟩
  rw [List.getElem?_append] at e
  split at e
  · obtain ⟨c, ys, h1, h2, h3⟩ := V0.ok i v e
    exact ⟨c, ys, h1, ts _ _ h2, h3⟩
  · rename_i hi
    cases q : i - LS.length with
    | zero =>
      rw [q] at e
      cases e
      have : i = LS.length := by omega
      subst this
      exact ⟨b, xs, rfl, ts _ _ hb, hc⟩
    | succ j =>
      rw [q] at e
      cases e
theorem LFV.okU (V0 : LFV C o H LS kT kM LP nx) {a : Addr} {u : HO} (ha : ∀ c ys, H c = some (.tup ys) → c ≠ a) : ∀ i v, LS[i]? = some v → LineOk (upd H a u) i v := fun i v e => by
  obtain ⟨c, ys, h1, h2, h3⟩ := V0.ok i v e
  exact ⟨c, ys, h1, by rw [upd_ne (ha _ _ h2)]; exact h2, h3⟩
theorem LFV.setT (V0 : LFV C o H LS kT kM LP nx) (kT' : List (List L2.Key × V)) : LFV C o (upd H o.t (.dT kT')) LS kT' kM LP nx :=
  ⟨by rw [upd_ne (ne_of V0.p V0.t (by intro z; cases z))]; exact V0.p, by rw [upd_ne (ne_of V0.l V0.t (by intro z; cases z))]; exact V0.l, upd_same, by rw [upd_ne (ne_of V0.m V0.t (by intro z; cases z))]; exact V0.m, by rw [upd_ne (ne_of V0.q V0.t (by intro z; cases z))]; exact V0.q, V0.lq, V0.okU fun c ys h => (V0.tup h).2.2.1⟩
theorem LFV.setM (V0 : LFV C o H LS kT kM LP nx) (kM' : List (L2.Key × V)) : LFV C o (upd H o.m (.dK kM')) LS kT kM' LP nx :=
  ⟨by rw [upd_ne (ne_of V0.p V0.m (by intro z; cases z))]; exact V0.p, by rw [upd_ne (ne_of V0.l V0.m (by intro z; cases z))]; exact V0.l, by rw [upd_ne (ne_of V0.t V0.m (by intro z; cases z))]; exact V0.t, upd_same, by rw [upd_ne (ne_of V0.q V0.m (by intro z; cases z))]; exact V0.q, V0.lq, V0.okU fun c ys h => (V0.tup h).2.2.2.1⟩
theorem LFV.setQ (V0 : LFV C o H LS kT kM LP nx) (LP' : List V) : LFV C o (upd H o.q (.lst LP')) LS kT kM LP' nx :=
  ⟨by rw [upd_ne (ne_of V0.p V0.q (by intro z; cases z))]; exact V0.p, by rw [upd_ne V0.lq]; exact V0.l, by rw [upd_ne (ne_of V0.t V0.q (by intro z; cases z))]; exact V0.t, by rw [upd_ne (ne_of V0.m V0.q (by intro z; cases z))]; exact V0.m, upd_same, V0.lq, V0.okU fun c ys h => (V0.tup h).2.2.2.2⟩
theorem LFV.setN (V0 : LFV C o H LS kT kM LP nx) (n' : Nat) : LFV C o (upd H o.p (.ins C o.dx (lff o n'))) LS kT kM LP n' :=
  ⟨upd_same, by rw [upd_ne (ne_of V0.l V0.p (by intro z; cases z))]; exact V0.l, by rw [upd_ne (ne_of V0.t V0.p (by intro z; cases z))]; exact V0.t, by rw [upd_ne (ne_of V0.m V0.p (by intro z; cases z))]; exact V0.m, by rw [upd_ne (ne_of V0.q V0.p (by intro z; cases z))]; exact V0.q, V0.lq, V0.okU fun c ys h => (V0.tup h).1⟩
theorem fr_l {u : HO} : Fr o H (upd H o.l u) := fun b x h h1 h2 h3 h4 h5 => by rw [upd_ne h2]; exact h
theorem fr_p {u : HO} : Fr o H (upd H o.p u) := fun b x h h1 h2 h3 h4 h5 => by rw [upd_ne h1]; exact h
theorem fr_t {u : HO} : Fr o H (upd H o.t u) := fun b x h h1 h2 h3 h4 h5 => by rw [upd_ne h3]; exact h
theorem fr_m {u : HO} : Fr o H (upd H o.m u) := fun b x h h1 h2 h3 h4 h5 => by rw [upd_ne h4]; exact h
theorem fr_q {u : HO} : Fr o H (upd H o.q u) := fun b x h h1 h2 h3 h4 h5 => by rw [upd_ne h5]; exact h
end
end K73
set_option Elab.async false
set_option linter.all false
set_option maxRecDepth 100000
set_option maxHeartbeats 2000000
/-! K73LM1: the folding's lines, its walk, its edges. -/
namespace K73
open PySem PySem.Spec PyProof.Rows L2
abbrev sLF (j : Nat) : Stmt := inClass (topS 38) j
def lim : Nat := 16000000
theorem lim_lt {n : Nat} (h : n ≤ lim) : n < sizeLine := Nat.lt_of_le_of_lt h (by decide)
def spGenL (C : Addr) : Sp := fun vs H Q _ => ∃ (o : LFA) (E : Gr) (M : Mg) (P : Pd) (nx nl nt nm j : Nat), vs = [.ref o.p, .int (j : Nat)] ∧ LFB C o H E M P nx nl nt nm ∧ nl ≤ lim ∧
  ∀ H', Fr o H H' → LFB C o H' E M P nx (nl + 1) nt nm → Q (.int (nl : Nat)) H'
def spInvL (C : Addr) : Sp := fun vs H Q _ => ∃ (o : LFA) (E : Gr) (M : Mg) (P : Pd) (nx nl nt nm : Nat) (a : V), vs = [.ref o.p, a] ∧ LFB C o H E M P nx nl nt nm ∧ nl ≤ lim ∧ Lab nl a ∧
  ∀ H' v nl', nl ≤ nl' → nl' ≤ nl + 1 → Fr o H H' → LFB C o H' E M P nx nl' nt nm → Lab nl' v → Q v H'
def spProL (C : Addr) : Sp := fun vs H Q _ => ∃ (o : LFA) (E : Gr) (M : Mg) (P : Pd) (nx nl nt nm : Nat) (a b : V), vs = [.ref o.p, a, b] ∧ LFB C o H E M P nx nl nt nm ∧ nl ≤ lim ∧ Lab nl a ∧ Lab nl b ∧
  ∀ H' v nl', nl ≤ nl' → nl' ≤ nl + 1 → Fr o H H' → LFB C o H' E M P nx nl' nt nm → Lab nl' v → Q v H'
section
variable {P : Program} {w : World} {K : PySem.W.Frag} {mg : Str → Option Value} {base : Heap} {f C : Addr} {fd : FuncData}
/-- a new line: the tuple at b is appended -/
theorem LFB.line {o : LFA} {H : Hp} {E : Gr} {M : Mg} {P : Pd} {nx nl nt nm : Nat} {LS : List V} {kT : List (List L2.Key × V)} {kM : List (L2.Key × V)} {LP : List V} (V0 : LFV C o H LS kT kM LP nx) (e1 : LS.length = nl) (e2 : kT.length = nt) (e3 : kM.length = nm)
    (rT : TRel H nl kT E) (rM : MRel H nl kM M) (rP : PRel H nl LP P) {b : Addr} {xs : List V} (nb : H b = none) (hc : LineC nl xs) :
    let H' := upd (upd H b (.tup xs)) o.l (.lst (LS ++ [.ref b]))
    Fr o H H' ∧ LFV C o H' (LS ++ [.ref b]) kT kM LP nx ∧ LFB C o H' E M P nx (nl + 1) nt nm := by
  intro H'
  have s1 : Same H (upd H b (.tup xs)) := same_new nb
  have V1 := (V0.same s1).addL upd_same (by rw [e1]; exact hc)
  have fr : Fr o H H' := (Fr.of s1).trans fr_l
  have ts := V0.frt fr
  exact ⟨fr, V1, _, kT, kM, LP, V1, by rw [List.length_append, e1]; rfl, e2, e3, rT.to ts (Nat.le_succ _), rM.to ts (Nat.le_succ _), rP.to ts (Nat.le_succ _)⟩
theorem scGenL : FnScope ["self", "index"] ["self", "index"] (defScope (sLF 1)) := ⟨rfl, rfl, rfl, by decide +kernel, rfl, by decide +kernel, by decide +kernel⟩
theorem ok_genL (F : MtP K "LabelledFolding.generator_line" "generator_line" (sLF 1) f fd) (B : Bi mg) (T : LFT K C) : FnOk P w K mg base CX0 1 f fd ["self", "index"] (spGenL C) := by
  refine F.ok scGenL (fun vs H Q E h => ?_) (fun cdv A outer s H vs Q E hr h => ⟨_, PSs.nox (pss_cons (ps_expr (pe_bm PySem.F.plainAttrs_list PySem.F.slot_list_append PySem.F.type_list_append mt_append (pe_fld (pv 0) rfl) (pa_cons (pe_tup (pa_cons pe_str (pa_cons (pv 1) pa_nil))) pa_nil)))
    (pss_one (ps_ret (pe_op op_sub (pe_callB call_len_seq rfl B.len PySem.boot_len (pa_cons (pe_fld (pv 0) rfl) pa_nil)) pe_int)))), ?_⟩)
  · obtain ⟨o, E, M, P, nx, nl, nt, nm, j, rfl, _⟩ := h; rfl
  · obtain ⟨o, E, M, P, nx, nl, nt, nm, j, rfl, ⟨LS, kT, kM, LP, V0, e1, e2, e3, rT, rM, rP⟩, hl, q⟩ := h
    refine ⟨_, rfl, o.p, C, o.dx, _, _, rfl, V0.p, T.cl, T.nl, lff_l, .inl ⟨rfl, _, SqL.of V0.l⟩, _, rfl, (by show 2 ≤ sizeLine; decide), fun b nb => ?_⟩
    obtain ⟨fr, V1, B1⟩ := LFB.line V0 e1 e2 e3 rT rM rP nb (.gen nl j)
    refine ⟨o.l, LS, _, rfl, rfl, (V0.same (same_new nb)).l, (by rw [e1]; exact lim_lt hl), ?_⟩
    refine ⟨_, rfl, o.p, C, o.dx, _, _, rfl, V1.p, T.cl, T.nl, lff_l, _, _, rfl, .inl (SqL.of V1.l), _, _, rfl, rfl, ?_⟩
    have e : (((LS ++ [V.ref b]).length : Nat) : Int) - 1 = (nl : Nat) := by rw [List.length_append, e1]; show ((nl + 1 : Nat) : Int) - 1 = _; omega
    show Q (.int ((((LS ++ [V.ref b]).length : Nat) : Int) - 1)) _
    rw [e]
    exact q _ fr B1
theorem scInvL : FnScope ["self", "line"] ["self", "line"] (defScope (sLF 2)) := ⟨rfl, rfl, rfl, by decide +kernel, rfl, by decide +kernel, by decide +kernel⟩
theorem ok_invL (F : MtP K "LabelledFolding.inverse_line" "inverse_line" (sLF 2) f fd) (B : Bi mg) (T : LFT K C) : FnOk P w K mg base CX0 1 f fd ["self", "line"] (spInvL C) := by
  refine F.ok scInvL (fun vs H Q E h => ?_) (fun cdv A outer s H vs Q E hr h => ⟨_, PSs.nox (pss_cons (ps_if (pt_cmpR op_isN (pv 1) pe_non (nomark _)) (pss_one (ps_ret pe_non)) pss_nil)
    (pss_cons (ps_expr (pe_bm PySem.F.plainAttrs_list PySem.F.slot_list_append PySem.F.type_list_append mt_append (pe_fld (pv 0) rfl) (pa_cons (pe_tup (pa_cons pe_str (pa_cons (pv 1) pa_nil))) pa_nil)))
    (pss_one (ps_ret (pe_op op_sub (pe_callB call_len_seq rfl B.len PySem.boot_len (pa_cons (pe_fld (pv 0) rfl) pa_nil)) pe_int))))), ?_⟩)
  · obtain ⟨o, E, M, P, nx, nl, nt, nm, a, rfl, _⟩ := h; rfl
  · obtain ⟨o, E, M, P, nx, nl, nt, nm, a, rfl, Bx, hl, la, q⟩ := h
    rcases la with rfl | ⟨i, rfl, hi⟩
    · refine ⟨_, rfl, rfl, _, rfl, iteTb (decide_eq_true rfl) ?_⟩
      exact q _ _ nl (Nat.le_refl _) (Nat.le_succ _) Fr.refl Bx (.inl rfl)
    · obtain ⟨LS, kT, kM, LP, V0, e1, e2, e3, rT, rM, rP⟩ := Bx.ex
      refine ⟨_, rfl, rfl, _, rfl, iteFb (decide_eq_false (by intro z; cases z)) ?_⟩
      refine ⟨_, rfl, o.p, C, o.dx, _, _, rfl, V0.p, T.cl, T.nl, lff_l, .inl ⟨rfl, _, SqL.of V0.l⟩, _, rfl, (by show 2 ≤ sizeLine; decide), fun b nb => ?_⟩
      obtain ⟨fr, V1, B1⟩ := LFB.line V0 e1 e2 e3 rT rM rP nb (.inv hi)
      refine ⟨o.l, LS, _, rfl, rfl, (V0.same (same_new nb)).l, (by rw [e1]; exact lim_lt hl), ?_⟩
      refine ⟨_, rfl, o.p, C, o.dx, _, _, rfl, V1.p, T.cl, T.nl, lff_l, _, _, rfl, .inl (SqL.of V1.l), _, _, rfl, rfl, ?_⟩
      have e : (((LS ++ [V.ref b]).length : Nat) : Int) - 1 = (nl : Nat) := by rw [List.length_append, e1]; show ((nl + 1 : Nat) : Int) - 1 = _; omega
      show Q (.int ((((LS ++ [V.ref b]).length : Nat) : Int) - 1)) _
      rw [e]
      exact q _ _ (nl + 1) (Nat.le_succ _) (Nat.le_refl _) fr B1 (.at (Nat.lt_succ_self _))
theorem scProL : FnScope ["self", "first", "second"] ["self", "first", "second"] (defScope (sLF 3)) := ⟨rfl, rfl, rfl, by decide +kernel, rfl, by decide +kernel, by decide +kernel⟩
theorem ok_proL (F : MtP K "LabelledFolding.product_line" "product_line" (sLF 3) f fd) (B : Bi mg) (T : LFT K C) : FnOk P w K mg base CX0 1 f fd ["self", "first", "second"] (spProL C) := by
  refine F.ok scProL (fun vs H Q E h => ?_) (fun cdv A outer s H vs Q E hr h => ⟨_, PSs.nox (pss_cons (ps_if (PW.pt (pw_or (pt_cmpR op_isN (pv 1) pe_non (nomark _)) (pw_or1 (pt_cmpR op_isN (pv 2) pe_non (nomark _))))) (pss_one (ps_ret (pe_ifExp (pt_cmpR op_isN (pv 2) pe_non (nomark _)) (pv 1) (pv 2)))) pss_nil)
    (pss_cons (ps_expr (pe_bm PySem.F.plainAttrs_list PySem.F.slot_list_append PySem.F.type_list_append mt_append (pe_fld (pv 0) rfl) (pa_cons (pe_tup (pa_cons pe_str (pa_cons (pv 1) (pa_cons (pv 2) pa_nil)))) pa_nil)))
    (pss_one (ps_ret (pe_op op_sub (pe_callB call_len_seq rfl B.len PySem.boot_len (pa_cons (pe_fld (pv 0) rfl) pa_nil)) pe_int))))), ?_⟩)
  · obtain ⟨o, E, M, P, nx, nl, nt, nm, a, b, rfl, _⟩ := h; rfl
  · obtain ⟨o, E, M, P, nx, nl, nt, nm, a, b, rfl, Bx, hl, la, lb, q⟩ := h
    have same : ∀ v, Lab nl v → Q v H := fun v lv => q _ _ nl (Nat.le_refl _) (Nat.le_succ _) Fr.refl Bx lv
    rcases la with rfl | ⟨i, rfl, hi⟩
    · refine ⟨_, rfl, rfl, _, rfl, iteTb (decide_eq_true rfl) (iteT ?_)⟩
      rcases lb with rfl | ⟨j, rfl, hj⟩
      · exact ⟨_, rfl, rfl, _, rfl, iteTb (decide_eq_true rfl) ⟨_, rfl, same _ (.inl rfl)⟩⟩
      · exact ⟨_, rfl, rfl, _, rfl, iteFb (decide_eq_false (by intro z; cases z)) ⟨_, rfl, same _ (.at hj)⟩⟩
    · rcases lb with rfl | ⟨j, rfl, hj⟩
      · refine ⟨_, rfl, rfl, _, rfl, iteFb (decide_eq_false (by intro z; cases z)) ?_⟩
        refine ⟨_, rfl, rfl, _, rfl, iteTb (decide_eq_true rfl) ?_⟩
        exact ⟨_, rfl, rfl, _, rfl, iteTb (decide_eq_true rfl) ⟨_, rfl, same _ (.at hi)⟩⟩
      · obtain ⟨LS, kT, kM, LP, V0, e1, e2, e3, rT, rM, rP⟩ := Bx.ex
        refine ⟨_, rfl, rfl, _, rfl, iteFb (decide_eq_false (by intro z; cases z)) ?_⟩
        refine ⟨_, rfl, rfl, _, rfl, iteFb (decide_eq_false (by intro z; cases z)) ?_⟩
        refine ⟨_, rfl, o.p, C, o.dx, _, _, rfl, V0.p, T.cl, T.nl, lff_l, .inl ⟨rfl, _, SqL.of V0.l⟩, _, rfl, _, rfl, (by show 3 ≤ sizeLine; decide), fun b nb => ?_⟩
        obtain ⟨fr, V1, B1⟩ := LFB.line V0 e1 e2 e3 rT rM rP nb (.prod hi hj)
        refine ⟨o.l, LS, _, rfl, rfl, (V0.same (same_new nb)).l, (by rw [e1]; exact lim_lt hl), ?_⟩
        refine ⟨_, rfl, o.p, C, o.dx, _, _, rfl, V1.p, T.cl, T.nl, lff_l, _, _, rfl, .inl (SqL.of V1.l), _, _, rfl, rfl, ?_⟩
        have e : (((LS ++ [V.ref b]).length : Nat) : Int) - 1 = (nl : Nat) := by rw [List.length_append, e1]; show ((nl + 1 : Nat) : Int) - 1 = _; omega
        show Q (.int ((((LS ++ [V.ref b]).length : Nat) : Int) - 1)) _
        rw [e]
        exact q _ _ (nl + 1) (Nat.le_succ _) (Nat.le_refl _) fr B1 (.at (Nat.lt_succ_self _))
end
end K73
set_option Elab.async false
set_option linter.all false
set_option maxRecDepth 100000
set_option maxHeartbeats 2000000
/-! K73LM2: the folding's walk along a path, its edges. -/
namespace K73
open PySem PySem.Spec PyProof.Rows L2
def spWalk (C : Addr) : Sp := fun vs H Q _ => ∃ (o : LFA) (E : Gr) (M : Mg) (P : Pd) (nx nl nt nm : Nat) (w : List Nat), vs = [.ref o.p, .str (tx w)] ∧ LFB C o H E M P nx nl nt nm ∧ nl + w.length ≤ lim ∧ w.length ≤ 400 ∧
  ∀ H' r v nl', nl ≤ nl' → nl' ≤ nl + w.length → Fr o H H' → LFB C o H' E M P nx nl' nt nm → Lab nl' v → H' r = some (.tup [.int ((far E 0 w).1 : Nat), v, .int ((far E 0 w).2 : Nat)]) → Q (.ref r) H'
def EdgeTo (E : Gr) (P : Pd) (u c v : Nat) (E' : Gr) (P' : Pd) : Prop :=
  (∃ n, E u c = some n ∧ E' = E ∧ P' = P ++ [(n, v)]) ∨ (∃ n, E u c = none ∧ E v (inv c) = some n ∧ E' = E ∧ P' = P ++ [(n, u)]) ∨ (E u c = none ∧ E v (inv c) = none ∧ E' = setG (setG E u c v) v (inv c) u ∧ P' = P)
def spAddE (C : Addr) : Sp := fun vs H Q _ => ∃ (o : LFA) (E : Gr) (M : Mg) (P : Pd) (nx nl nt nm u c v : Nat) (lab : V), vs = [.ref o.p, .int (u : Nat), .str (ch c), .int (v : Nat), lab] ∧ LFB C o H E M P nx nl nt nm ∧ isStep c ∧ nl + 2 ≤ lim ∧ nt + 2 ≤ lim ∧ P.length ≤ lim ∧ Lab nl lab ∧
  ∀ H' E' P' nl' nt', nl ≤ nl' → nl' ≤ nl + 2 → nt' ≤ nt + 2 → Fr o H H' → LFB C o H' E' M P' nx nl' nt' nm → EdgeTo E P u c v E' P' → Q .non H'
theorem far_step {E : Gr} {w : List Nat} {u c v i : Nat} (hc : w[i]? = some c) (e : E u c = some v) : far E u (w.drop i) = ((far E v (w.drop (i + 1))).1, (far E v (w.drop (i + 1))).2 + 1) := by
  have hd : w.drop i = c :: w.drop (i + 1) := by
    have hi := (List.getElem?_eq_some_iff.mp hc)
    rw [List.drop_eq_getElem_cons hi.1, hi.2]
  rw [hd]
  show (match E u c with
    | none => (u, 0)
    | some v => ((far E v (w.drop (i + 1))).1, (far E v (w.drop (i + 1))).2 + 1)) = _
  rw [e]
theorem far_stop {E : Gr} {w : List Nat} {u c i : Nat} (hc : w[i]? = some c) (e : E u c = none) : far E u (w.drop i) = (u, 0) := by
  have hd : w.drop i = c :: w.drop (i + 1) := by
    have hi := (List.getElem?_eq_some_iff.mp hc)
    rw [List.drop_eq_getElem_cons hi.1, hi.2]
  rw [hd]
  show (match E u c with
    | none => (u, 0)
    | some v => ((far E v (w.drop (i + 1))).1, (far E v (w.drop (i + 1))).2 + 1)) = _
  rw [e]
/-- the i-th turn of a walk, at node u -/
def OnWay (E : Gr) (w : List Nat) (i u : Nat) : Prop := (far E 0 w).1 = (far E u (w.drop i)).1 ∧ (far E 0 w).2 = i + (far E u (w.drop i)).2
theorem OnWay.start {E : Gr} {w : List Nat} : OnWay E w 0 0 := ⟨by rw [List.drop_zero], by rw [List.drop_zero, Nat.zero_add]⟩
theorem OnWay.next {E : Gr} {w : List Nat} {u c v i : Nat} (g : OnWay E w i u) (hc : w[i]? = some c) (e : E u c = some v) : OnWay E w (i + 1) v := by
  obtain ⟨h1, h2⟩ := g
  rw [far_step hc e] at h1 h2
  exact ⟨h1, by rw [h2]; omega⟩
theorem OnWay.stop {E : Gr} {w : List Nat} {u c i : Nat} (g : OnWay E w i u) (hc : w[i]? = some c) (e : E u c = none) : (far E 0 w).1 = u ∧ (far E 0 w).2 = i := by
  obtain ⟨h1, h2⟩ := g
  rw [far_stop hc e] at h1 h2
  exact ⟨h1, h2⟩
theorem OnWay.fin {E : Gr} {w : List Nat} {u : Nat} (g : OnWay E w w.length u) : (far E 0 w).1 = u ∧ (far E 0 w).2 = w.length := by
  obtain ⟨h1, h2⟩ := g
  rw [List.drop_length] at h1 h2
  exact ⟨h1, h2⟩
section
variable {P : Program} {w : World} {K : PySem.W.Frag} {mg : Str → Option Value} {base : Heap} {f C : Addr} {fd : FuncData}
def nsWalk : List Str := ["self", "path", "node", "label", "position", "step", "edge_label"]
theorem scWalk : FnScope nsWalk ["self", "path"] (defScope (sLF 5)) := ⟨rfl, rfl, rfl, by decide +kernel, rfl, by decide +kernel, by decide +kernel⟩
theorem ok_walk (F : MtP K "LabelledFolding.walk" "walk" (sLF 5) f fd) (B : Bi mg) (T : LFT K C) (ZP : HasM P w K mg base 1 C "product_line" ["self", "first", "second"] (spProL C)) : FnOk P w K mg base CX0 2 f fd ["self", "path"] (spWalk C) := by
  refine F.ok scWalk (fun vs H Q E h => ?_) (fun cdv A outer s H vs Q E hr h => ⟨_, PSs.nox (pss_cons (ps_asg (pe_tup (pa_cons pe_int (pa_cons pe_non pa_nil))) (pg_tup rfl (pgs_cons (pg_name (i := 2) scWalk.nd rfl (Or.inl rfl)) (pgs_cons (pg_name (i := 3) scWalk.nd rfl (Or.inl rfl)) pgs_nil))))
    (pss_cons (ps_for PassesOwn.never rfl (pi_enumS (by rfl) B.enumerate (pa_cons (pv 1) pa_nil)) (pg_tup rfl (pgs_cons (pg_name (i := 4) scWalk.nd rfl (Or.inl rfl)) (pgs_cons (pg_name (i := 5) scWalk.nd rfl (Or.inl rfl)) pgs_nil)))
      (pss_cons (ps_if (pt_cmp (pc_dnotin (hu_of hr) (pe_tup (pa_cons (pv 2) (pa_cons (pv 5) pa_nil))) (pe_fld (pv 0) rfl))) (pss_one (ps_ret (pe_tup (pa_cons (pv 2) (pa_cons (pv 3) (pa_cons (pv 4) pa_nil)))))) pss_nil)
      (pss_cons (ps_asg (pe_dget (hu_of hr) (pe_fld (pv 0) rfl) (pe_tup (pa_cons (pv 2) (pa_cons (pv 5) pa_nil))) (fun _ _ => rfl)) (pg_tup rfl (pgs_cons (pg_name (i := 2) scWalk.nd rfl (Or.inl rfl)) (pgs_cons (pg_name (i := 6) scWalk.nd rfl (Or.inl rfl)) pgs_nil))))
      (pss_one (ps_set (i := 3) scWalk.nd rfl (Or.inl rfl) (pe_hm ZP T.cl hr (pv 0) (pa_cons (pv 3) (pa_cons (pv 6) pa_nil))))))))
    (pss_one (ps_ret (pe_tup (pa_cons (pv 2) (pa_cons (pv 3) (pa_cons (pe_callB call_len_str rfl B.len PySem.boot_len (pa_cons (pv 1) pa_nil)) pa_nil)))))))), ?_⟩)
  · obtain ⟨o, E, M, P, nx, nl, nt, nm, w, rfl, _⟩ := h; rfl
  · obtain ⟨o, E, M, P, nx, nl, nt, nm, w, rfl, B0, hl, hw, q⟩ := h
    refine ⟨(by show 2 ≤ sizeLine; decide), fun a na => ⟨a, _, rfl, SqT.of upd_same, rfl, _, _, rfl, _, _, rfl, rfl, ?_⟩⟩
    have s0 := same_new (o := .tup [.int ((0 : Nat) : Int), .non]) na
    refine ⟨_, rfl, _, rfl, for_it walk_enumS (fun i σ H' => ∃ (u : Nat) (lab : V) (nl' : Nat) (z1 z2 z3 : Option V), σ = [some (.ref o.p), some (.str (tx w)), some (.int (u : Nat)), some lab, z1, z2, z3] ∧ nl ≤ nl' ∧ nl' ≤ nl + i ∧ Fr o H H' ∧ LFB C o H' E M P nx nl' nt nm ∧ Lab nl' lab ∧ OnWay E w i u)
      ⟨0, .non, nl, none, none, none, rfl, Nat.le_refl _, Nat.le_refl _, Fr.of s0, B0.same s0, .inl rfl, .start⟩ (fun _ _ _ _ _ => trivial) (fun i x σ H2 H3 hi p y => ?_) (fun σ H2 p => ?_)⟩
    · obtain ⟨u, lab, nl', z1, z2, z3, rfl, g1, g2, fr, B2, la, ow⟩ := p
      obtain ⟨T1, c, rfl, nT, rfl, hc⟩ := y
      rw [tx_get] at hc
      rw [tx_size] at hi
      refine ⟨T1, _, rfl, SqT.of upd_same, rfl, _, _, rfl, _, _, rfl, rfl, ?_⟩
      have s1 : Same H2 (upd H2 T1 (.tup [.int (i : Nat), .str ⟨#[c]⟩])) := same_new nT
      generalize upd H2 T1 (.tup [.int (i : Nat), .str ⟨#[c]⟩]) = H4 at s1
      obtain ⟨LS, kT, kM, LP, V2, e1, e2, e3, rT, rM, rP⟩ := (B2.same s1).ex
      refine ⟨_, rfl, _, rfl, (by show 2 ≤ sizeLine; decide), fun b nb => ?_⟩
      have s2 := same_new (o := .tup [.int (u : Nat), .str ⟨#[c]⟩]) nb
      have V3 := V2.same s2
      refine ⟨_, rfl, o.p, C, o.dx, _, _, rfl, V3.p, T.cl, T.nt, lff_t, o.t, _, rfl, DGet.t (k := key u c) V3.t upd_same, ?_⟩
      cases eE : E u c with
      | none =>
        rw [(rT u c).2 eE]
        refine ⟨_, rfl, iteT ?_⟩
        refine ⟨_, rfl, _, rfl, _, rfl, (by show 3 ≤ sizeLine; decide), fun r nr => ?_⟩
        obtain ⟨k1, k2⟩ := ow.stop hc eE
        have s3 : Same H2 (upd (upd H4 b (.tup [.int (u : Nat), .str ⟨#[c]⟩])) r (.tup [.int (u : Nat), lab, .int (i : Nat)])) := (s1.trans s2).trans (same_new nr)
        exact q _ r lab nl' g1 (by omega) (fr.trans (Fr.of s3)) (B2.same s3) la (by rw [k1, k2]; exact upd_same)
      | some v =>
        obtain ⟨b2, lab2, h1, h2, h3⟩ := (rT u c).1 v eE
        rw [h1]
        refine ⟨_, rfl, iteF ?_⟩
        generalize hH5 : upd H4 b (.tup [.int (u : Nat), .str ⟨#[c]⟩]) = H5 at s2 V3
        refine ⟨_, rfl, o.p, C, o.dx, _, _, rfl, V3.p, T.cl, T.nt, lff_t, _, rfl, _, rfl, (by show 2 ≤ sizeLine; decide), fun b3 nb3 => ?_⟩
        have s3 := same_new (o := .tup [.int (u : Nat), .str ⟨#[c]⟩]) nb3
        have V4 := V3.same s3
        refine ⟨o.t, .ref b2, rfl, ?_, ?_⟩
        · have g := DGet.t (k := key u c) V4.t (b := b3) upd_same
          rw [h1] at g
          exact g
        · refine ⟨b2, _, rfl, SqT.of (s3 _ _ (s2 _ _ h2)), rfl, _, _, rfl, _, _, rfl, rfl, ?_⟩
          have s4 : Same H2 (upd H5 b3 (.tup [.int (u : Nat), .str ⟨#[c]⟩])) := (s1.trans s2).trans s3
          refine ⟨_, rfl, o.p, o.dx, _, rfl, V4.p, lff_no (by decide +kernel), _, rfl, _, rfl, ?_⟩
          refine ⟨o, E, M, P, nx, nl', nt, nm, _, _, rfl, B2.same s4, by omega, la, by rw [e1] at *; exact h3, fun H6 v6 nl6 l1 l2 f6 B6 la6 => ?_⟩
          exact ⟨v, v6, nl6, _, _, _, rfl, by omega, by omega, (fr.trans (Fr.of s4)).trans f6, B6, la6, ow.next hc eE⟩
    · obtain ⟨u, lab, nl', z1, z2, z3, rfl, g1, g2, fr, B2, la, ow⟩ := p
      rw [tx_size] at g2 ow
      obtain ⟨k1, k2⟩ := ow.fin
      refine ⟨_, rfl, _, rfl, _, rfl, _, rfl, (by rw [tx_len]; exact Nat.le_trans hw (by decide)), (by show 3 ≤ sizeLine; decide), fun r nr => ?_⟩
      have s3 := same_new (o := .tup [.int (u : Nat), lab, .int ((tx w).length : Nat)]) nr
      exact q _ r lab nl' g1 g2 (fr.trans (Fr.of s3)) (B2.same s3) la (by rw [k1, k2]; show upd H2 r _ r = _; rw [upd_same, tx_len])
end
end K73
set_option Elab.async false
set_option linter.all false
set_option maxRecDepth 100000
set_option maxHeartbeats 2000000
/-! K73LM3: an edge is added. -/
namespace K73
open PySem PySem.Spec PyProof.Rows L2
section
variable {P : Program} {w : World} {K : PySem.W.Frag} {mg : Str → Option Value} {base : Heap} {f C : Addr} {fd : FuncData}
def nsAddE : List Str := ["self", "source", "step", "target", "label", "back", "node", "known"]
def psAddE : List Str := ["self", "source", "step", "target", "label"]
theorem scAddE : FnScope nsAddE psAddE (defScope (sLF 6)) := ⟨rfl, rfl, rfl, by decide +kernel, rfl, by decide +kernel, by decide +kernel⟩
theorem ok_addE (F : MtP K "LabelledFolding.add_edge" "add_edge" (sLF 6) f fd) (T : LFT K C) (ZI : HasM P w K mg base 1 C "inverse_line" ["self", "line"] (spInvL C)) (ZP : HasM P w K mg base 1 C "product_line" ["self", "first", "second"] (spProL C)) :
    FnOk P w K mg base CX0 2 f fd psAddE (spAddE C) := by
  refine F.ok scAddE (fun vs H Q E h => ?_) (fun cdv A outer s H vs Q E hr h => ⟨_, PSs.nox (pss_cons (ps_set (i := 5) scAddE.nd rfl (Or.inl rfl) (pe_bm0 PySem.F.plainAttrs_str PySem.F.slot_str_swapcase PySem.F.type_str_swapcase mt_swap (pv 2)))
    (pss_one (ps_if (pt_cmp (pc_din (hu_of hr) (pe_tup (pa_cons (pv 1) (pa_cons (pv 2) pa_nil))) (pe_fld (pv 0) rfl)))
      (pss_cons (ps_asg (pe_dget (hu_of hr) (pe_fld (pv 0) rfl) (pe_tup (pa_cons (pv 1) (pa_cons (pv 2) pa_nil))) (fun _ _ => rfl)) (pg_tup rfl (pgs_cons (pg_name (i := 6) scAddE.nd rfl (Or.inl rfl)) (pgs_cons (pg_name (i := 7) scAddE.nd rfl (Or.inl rfl)) pgs_nil))))
      (pss_one (ps_expr (pe_bm PySem.F.plainAttrs_list PySem.F.slot_list_append PySem.F.type_list_append mt_append (pe_fld (pv 0) rfl) (pa_cons (pe_tup (pa_cons (pv 6) (pa_cons (pv 3) (pa_cons (pe_hm ZP T.cl hr (pv 0) (pa_cons (pe_hm ZI T.cl hr (pv 0) (pa_cons (pv 4) pa_nil)) (pa_cons (pv 7) pa_nil))) pa_nil)))) pa_nil)))))
      (pss_one (ps_if (pt_cmp (pc_din (hu_of hr) (pe_tup (pa_cons (pv 3) (pa_cons (pv 5) pa_nil))) (pe_fld (pv 0) rfl)))
        (pss_cons (ps_asg (pe_dget (hu_of hr) (pe_fld (pv 0) rfl) (pe_tup (pa_cons (pv 3) (pa_cons (pv 5) pa_nil))) (fun _ _ => rfl)) (pg_tup rfl (pgs_cons (pg_name (i := 6) scAddE.nd rfl (Or.inl rfl)) (pgs_cons (pg_name (i := 7) scAddE.nd rfl (Or.inl rfl)) pgs_nil))))
        (pss_one (ps_expr (pe_bm PySem.F.plainAttrs_list PySem.F.slot_list_append PySem.F.type_list_append mt_append (pe_fld (pv 0) rfl) (pa_cons (pe_tup (pa_cons (pv 6) (pa_cons (pv 1) (pa_cons (pe_hm ZP T.cl hr (pv 0) (pa_cons (pv 4) (pa_cons (pv 7) pa_nil))) pa_nil)))) pa_nil)))))
        (pss_cons (ps_dput (hu_of hr) (pe_fld (pv 0) rfl) (pe_tup (pa_cons (pv 1) (pa_cons (pv 2) pa_nil))) (pe_tup (pa_cons (pv 3) (pa_cons (pv 4) pa_nil))) rfl)
        (pss_one (ps_dput (hu_of hr) (pe_fld (pv 0) rfl) (pe_tup (pa_cons (pv 3) (pa_cons (pv 5) pa_nil))) (pe_tup (pa_cons (pv 1) (pa_cons (pe_hm ZI T.cl hr (pv 0) (pa_cons (pv 4) pa_nil)) pa_nil))) rfl)))))))), ?_⟩)
  · obtain ⟨o, E, M, P, nx, nl, nt, nm, u, c, v, lab, rfl, _⟩ := h; rfl
  · obtain ⟨o, E, M, P, nx, nl, nt, nm, u, c, v, lab, rfl, B0, hc, hl, ht, hp, la, q⟩ := h
    refine ⟨_, rfl, rfl, ch c, rfl, rfl, (by rw [swap_step hc]; rfl), ?_⟩
    rw [swap_step hc]
    -- (source, step) in self.targets_of
    refine ⟨_, rfl, _, rfl, (by show 2 ≤ sizeLine; decide), fun b1 nb1 => ?_⟩
    have s1 := same_new (o := .tup [.int (u : Nat), .str (ch c)]) nb1
    generalize hH1 : upd H b1 (.tup [.int (u : Nat), .str (ch c)]) = H1 at s1
    have hb1 : H1 b1 = some (.tup ((key u c).map kV)) := by rw [← hH1]; exact upd_same
    obtain ⟨LS, kT, kM, LP, V1, e1, e2, e3, rT, rM, rP⟩ := (B0.same s1).ex
    refine ⟨_, rfl, o.p, C, o.dx, _, _, rfl, V1.p, T.cl, T.nt, lff_t, o.t, _, rfl, DGet.t (k := key u c) V1.t hb1, ?_⟩
    cases eE : E u c with
    | some n =>
      obtain ⟨b2, lab2, h1, h2, h3⟩ := (rT u c).1 n eE
      rw [h1]
      refine ⟨_, rfl, iteT ?_⟩
      refine ⟨_, rfl, o.p, C, o.dx, _, _, rfl, V1.p, T.cl, T.nt, lff_t, _, rfl, _, rfl, (by show 2 ≤ sizeLine; decide), fun b3 nb3 => ?_⟩
      have s2 := same_new (o := .tup [.int (u : Nat), .str (ch c)]) nb3
      have g := DGet.t (k := key u c) (V1.same s2).t (b := b3) upd_same
      rw [h1] at g
      refine ⟨o.t, .ref b2, rfl, g, b2, _, rfl, SqT.of (s2 _ _ h2), rfl, _, _, rfl, _, _, rfl, rfl, ?_⟩
      have B2 := (B0.same s1).same s2
      have V2 := V1.same s2
      have s12 : Same H _ := s1.trans s2
      generalize upd H1 b3 (.tup [.int (u : Nat), .str (ch c)]) = H2 at B2 V2 s12
      refine ⟨_, rfl, o.p, C, o.dx, _, _, rfl, V2.p, T.cl, T.nq, lff_q, .inl ⟨rfl, _, SqL.of V2.q⟩, ?_⟩
      refine ⟨_, rfl, _, rfl, _, rfl, o.p, o.dx, _, rfl, V2.p, lff_no (by decide +kernel), ?_⟩
      refine ⟨_, rfl, o.p, o.dx, _, rfl, V2.p, lff_no (by decide +kernel), _, rfl, ?_⟩
      refine ⟨o, E, M, P, nx, nl, nt, nm, lab, rfl, B2, by omega, la, fun H3 v3 nl3 l3 m3 f3 B3 la3 => ?_⟩
      refine ⟨_, rfl, ?_⟩
      refine ⟨o, E, M, P, nx, nl3, nt, nm, v3, lab2, rfl, B3, by omega, la3, h3.mono l3, fun H4 v4 nl4 l4 m4 f4 B4 la4 => ?_⟩
      refine ⟨(by show 3 ≤ sizeLine; decide), fun b5 nb5 => ?_⟩
      have s5 := same_new (o := .tup [.int (n : Nat), .int (v : Nat), v4]) nb5
      obtain ⟨LS5, kT5, kM5, LP5, V5, a1, a2, a3, rT5, rM5, rP5⟩ := (B4.same s5).ex
      refine ⟨o.q, LP5, _, rfl, rfl, V5.q, (by rw [rP5.1]; exact lim_lt hp), ?_⟩
      have V6 := V5.setQ (LP5 ++ [.ref b5])
      have ts := V5.frt (fr_q (u := .lst (LP5 ++ [.ref b5])))
      refine q _ E (P ++ [(n, v)]) nl4 nt (by omega) (by omega) (by omega) (((Fr.of s12).trans (f3.trans f4)).trans ((Fr.of s5).trans fr_q)) ?_ (.inl ⟨n, eE, rfl, rfl⟩)
      exact ⟨LS5, kT5, kM5, _, V6, a1, a2, a3, rT5.to ts (Nat.le_refl _), rM5.to ts (Nat.le_refl _), (rP5.push upd_same la4).to ts (Nat.le_refl _)⟩
    | none =>
      rw [(rT u c).2 eE]
      refine ⟨_, rfl, iteF ?_⟩
      refine ⟨_, rfl, _, rfl, (by show 2 ≤ sizeLine; decide), fun b2 nb2 => ?_⟩
      have s2 := same_new (o := .tup [.int (v : Nat), .str (ch (inv c))]) nb2
      have B2 := (B0.same s1).same s2
      have V2 := V1.same s2
      have s12 : Same H _ := s1.trans s2
      have rT2 := rT.to (samT s2) (Nat.le_refl _)
      generalize hH2 : upd H1 b2 (.tup [.int (v : Nat), .str (ch (inv c))]) = H2 at B2 V2 s12 rT2 s2
      have hb2 : H2 b2 = some (.tup ((key v (inv c)).map kV)) := by rw [← hH2]; exact upd_same
      refine ⟨_, rfl, o.p, C, o.dx, _, _, rfl, V2.p, T.cl, T.nt, lff_t, o.t, _, rfl, DGet.t (k := key v (inv c)) V2.t hb2, ?_⟩
      cases eF : E v (inv c) with
      | some n =>
        obtain ⟨b4, lab2, h1, h2, h3⟩ := (rT2 v (inv c)).1 n eF
        rw [h1]
        refine ⟨_, rfl, iteT ?_⟩
        refine ⟨_, rfl, o.p, C, o.dx, _, _, rfl, V2.p, T.cl, T.nt, lff_t, _, rfl, _, rfl, (by show 2 ≤ sizeLine; decide), fun b3 nb3 => ?_⟩
        have s3 := same_new (o := .tup [.int (v : Nat), .str (ch (inv c))]) nb3
        have g := DGet.t (k := key v (inv c)) (V2.same s3).t (b := b3) upd_same
        rw [h1] at g
        refine ⟨o.t, .ref b4, rfl, g, b4, _, rfl, SqT.of (s3 _ _ h2), rfl, _, _, rfl, _, _, rfl, rfl, ?_⟩
        have B3 := B2.same s3
        have V3 := V2.same s3
        have s13 : Same H _ := s12.trans s3
        generalize upd H2 b3 (.tup [.int (v : Nat), .str (ch (inv c))]) = H3 at B3 V3 s13
        refine ⟨_, rfl, o.p, C, o.dx, _, _, rfl, V3.p, T.cl, T.nq, lff_q, .inl ⟨rfl, _, SqL.of V3.q⟩, ?_⟩
        refine ⟨_, rfl, _, rfl, _, rfl, o.p, o.dx, _, rfl, V3.p, lff_no (by decide +kernel), _, rfl, _, rfl, ?_⟩
        refine ⟨o, E, M, P, nx, nl, nt, nm, lab, lab2, rfl, B3, by omega, la, h3, fun H4 v4 nl4 l4 m4 f4 B4 la4 => ?_⟩
        refine ⟨(by show 3 ≤ sizeLine; decide), fun b5 nb5 => ?_⟩
        have s5 := same_new (o := .tup [.int (n : Nat), .int (u : Nat), v4]) nb5
        obtain ⟨LS5, kT5, kM5, LP5, V5, a1, a2, a3, rT5, rM5, rP5⟩ := (B4.same s5).ex
        refine ⟨o.q, LP5, _, rfl, rfl, V5.q, (by rw [rP5.1]; exact lim_lt hp), ?_⟩
        have V6 := V5.setQ (LP5 ++ [.ref b5])
        have ts := V5.frt (fr_q (u := .lst (LP5 ++ [.ref b5])))
        refine q _ E (P ++ [(n, u)]) nl4 nt (by omega) (by omega) (by omega) (((Fr.of s13).trans f4).trans ((Fr.of s5).trans fr_q)) ?_ (.inr (.inl ⟨n, eE, eF, rfl, rfl⟩))
        exact ⟨LS5, kT5, kM5, _, V6, a1, a2, a3, rT5.to ts (Nat.le_refl _), rM5.to ts (Nat.le_refl _), (rP5.push upd_same la4).to ts (Nat.le_refl _)⟩
      | none =>
        rw [(rT2 v (inv c)).2 eF]
        refine ⟨_, rfl, iteF ?_⟩
        -- self.targets_of[source, step] = (target, label)
        refine ⟨_, rfl, _, rfl, (by show 2 ≤ sizeLine; decide), fun b3 nb3 => ?_⟩
        have s3 := same_new (o := .tup [.int (v : Nat), lab]) nb3
        have V3 := V2.same s3
        refine ⟨_, rfl, o.p, C, o.dx, _, _, rfl, V3.p, T.cl, T.nt, lff_t, _, rfl, _, rfl, (by show 2 ≤ sizeLine; decide), fun b4 nb4 => ?_⟩
        have s4 := same_new (o := .tup [.int (u : Nat), .str (ch c)]) nb4
        have hb3 := s4 _ _ (upd_same (H := H2) (a := b3) (o := .tup [.int (v : Nat), lab]))
        have V4 := V3.same s4
        have s14 : Same H _ := (s12.trans s3).trans s4
        have rT4 := (rT2.to (samT s3) (Nat.le_refl _)).to (samT s4) (Nat.le_refl _)
        have rM4 := ((rM.to (samT s2) (Nat.le_refl _)).to (samT s3) (Nat.le_refl _)).to (samT s4) (Nat.le_refl _)
        have rP4 := ((rP.to (samT s2) (Nat.le_refl _)).to (samT s3) (Nat.le_refl _)).to (samT s4) (Nat.le_refl _)
        have hb4 := upd_same (H := upd H2 b3 (.tup [.int (v : Nat), lab])) (a := b4) (o := .tup [.int (u : Nat), .str (ch c)])
        generalize upd (upd H2 b3 (.tup [.int (v : Nat), lab])) b4 (.tup [.int (u : Nat), .str (ch c)]) = H4 at V4 s14 rT4 rM4 rP4 hb3 hb4
        refine ⟨o.t, _, rfl, DPut.t (k := key u c) V4.t hb4 (by rw [e2]; exact lim_lt (by omega)), ?_⟩
        have V5 := V4.setT (putK kT (key u c) (.ref b3))
        have f5 : Fr o H4 (upd H4 o.t (.dT (putK kT (key u c) (.ref b3)))) := fr_t
        have ts := V4.frt f5
        have l5 : (putK kT (key u c) (.ref b3)).length ≤ nt + 1 := by rw [← e2]; exact length_putK _ _ _
        have rT5 := (rT4.put (c := c) (u := u) hb3 la).to ts (Nat.le_refl _)
        have rM5 := rM4.to ts (Nat.le_refl _)
        have rP5 := rP4.to ts (Nat.le_refl _)
        generalize upd H4 o.t (.dT (putK kT (key u c) (.ref b3))) = H5 at V5 f5 rT5 rM5 rP5
        generalize hkT : putK kT (key u c) (.ref b3) = kT5 at V5 l5 rT5
        -- self.targets_of[target, back] = (source, self.inverse_line(label))
        refine ⟨_, rfl, _, rfl, o.p, o.dx, _, rfl, V5.p, lff_no (by decide +kernel), _, rfl, ?_⟩
        refine ⟨o, setG E u c v, M, P, nx, nl, _, nm, lab, rfl, ⟨LS, kT5, kM, LP, V5, e1, rfl, e3, rT5, rM5, rP5⟩, by omega, la, fun H6 v6 nl6 l6 m6 f6 B6 la6 => ?_⟩
        refine ⟨(by show 2 ≤ sizeLine; decide), fun b7 nb7 => ?_⟩
        have s7 := same_new (o := .tup [.int (u : Nat), v6]) nb7
        have B7 := B6.same s7
        obtain ⟨LS7, kT7, kM7, LP7, V7, a1, a2, a3, rT7, rM7, rP7⟩ := B7.ex
        refine ⟨_, rfl, o.p, C, o.dx, _, _, rfl, V7.p, T.cl, T.nt, lff_t, _, rfl, _, rfl, (by show 2 ≤ sizeLine; decide), fun b8 nb8 => ?_⟩
        have s8 := same_new (o := .tup [.int (v : Nat), .str (ch (inv c))]) nb8
        have hb7 := s8 _ _ (upd_same (H := H6) (a := b7) (o := .tup [.int (u : Nat), v6]))
        have V8 := V7.same s8
        refine ⟨o.t, _, rfl, DPut.t (k := key v (inv c)) V8.t upd_same (by rw [a2]; exact lim_lt (by omega)), ?_⟩
        have V9 := V8.setT (putK kT7 (key v (inv c)) (.ref b7))
        have ts8 := samT s8
        have ts9 := V8.frt (fr_t (u := .dT (putK kT7 (key v (inv c)) (.ref b7))))
        have l9 : (putK kT7 (key v (inv c)) (.ref b7)).length ≤ nt + 2 := Nat.le_trans (length_putK _ _ _) (by rw [a2]; omega)
        refine q _ (setG (setG E u c v) v (inv c) u) P nl6 _ (by omega) (by omega) l9 ((Fr.of s14).trans (f5.trans (f6.trans ((Fr.of s7).trans ((Fr.of s8).trans fr_t))))) ?_ (.inr (.inr ⟨eE, eF, rfl, rfl⟩))
        exact ⟨LS7, _, kM7, LP7, V9, a1, rfl, a3, (((rT7.to ts8 (Nat.le_refl _)).put (u := v) (c := inv c) hb7 la6)).to ts9 (Nat.le_refl _), (rM7.to ts8 (Nat.le_refl _)).to ts9 (Nat.le_refl _), (rP7.to ts8 (Nat.le_refl _)).to ts9 (Nat.le_refl _)⟩
end
end K73
set_option Elab.async false
set_option linter.all false
set_option maxRecDepth 100000
set_option maxHeartbeats 2000000
/-! K73LM4: the node into which a node was merged, with the paths made short. -/
namespace K73
open PySem PySem.Spec PyProof.Rows L2
def Resp (M : Mg) (h : Nat → Nat) : Prop := ∀ r k, M r = some k → h r = h k
/-- from n by way of cs to x -/
inductive Chain (M : Mg) (n : Nat) : List Nat → Nat → Prop where
  | nil : Chain M n [] n
  | snoc {cs : List Nat} {x y : Nat} : Chain M n cs x → M x = some y → Chain M n (cs ++ [x]) y
theorem Chain.resp {M : Mg} {n : Nat} {cs : List Nat} {x : Nat} (c : Chain M n cs x) {h : Nat → Nat} (g : Resp M h) : h n = h x ∧ ∀ r ∈ cs, h r = h x := by
  induction c with
  | nil => exact ⟨rfl, fun r hr => (nomatch hr)⟩
  | snoc c e ih =>
    have q := g _ _ e
    refine ⟨ih.1.trans q, fun r hr => ?_⟩
    rcases List.mem_append.mp hr with hr | hr
    · exact (ih.2 r hr).trans q
    · rw [List.mem_singleton.mp hr]; exact q
theorem Chain.next {M : Mg} {n : Nat} {cs : List Nat} {x : Nat} (c : Chain M n cs x) : ∀ r ∈ cs, ∃ k, M r = some k ∧ (k ∈ cs ∨ k = x) := by
  induction c with
  | nil => exact fun r hr => (nomatch hr)
  | @snoc cs x y c e ih =>
    intro r hr
    rcases List.mem_append.mp hr with hr | hr
    · obtain ⟨k, h1, h2⟩ := ih r hr
      refine ⟨k, h1, .inl ?_⟩
      rcases h2 with h2 | h2
      · exact List.mem_append_left _ h2
      · rw [h2]; exact List.mem_append_right _ (List.mem_singleton.mpr rfl)
    · rw [List.mem_singleton.mp hr]
      exact ⟨y, e, .inr rfl⟩
theorem Chain.lt {M : Mg} {n nx : Nat} {cs : List Nat} {x : Nat} (c : Chain M n cs x) (down : ∀ r k, M r = some k → k < r ∧ r < nx) : x + cs.length ≤ n ∧ ∀ r ∈ cs, x < r := by
  induction c with
  | nil => exact ⟨Nat.le_refl _, fun r hr => (nomatch hr)⟩
  | @snoc cs x y c e ih =>
    have q := (down _ _ e).1
    refine ⟨by rw [List.length_append]; have := ih.1; show y + (cs.length + 1) ≤ n; omega, fun r hr => ?_⟩
    rcases List.mem_append.mp hr with hr | hr
    · exact Nat.lt_trans q (ih.2 r hr)
    · rw [List.mem_singleton.mp hr]; exact q
def setAll (M : Mg) (done : List Nat) (x : Nat) : Mg := fun r => if r ∈ done then some x else M r
theorem setAll_cons {M : Mg} {done : List Nat} {x m : Nat} : setM (setAll M done x) m x = setAll M (m :: done) x := by
  funext r
  unfold setM setAll
  by_cases e : r = m
  · rw [if_pos e, if_pos (by rw [e]; exact List.mem_cons_self)]
  · rw [if_neg e]
    by_cases z : r ∈ done
    · rw [if_pos z, if_pos (List.mem_cons_of_mem _ z)]
    · rw [if_neg z, if_neg (fun q => (List.mem_cons.mp q).elim e z)]
theorem setAll_nil {M : Mg} {x : Nat} : setAll M [] x = M := by
  funext r
  unfold setAll
  rw [if_neg (by simp)]
/-- what `current` does to the nodes that are merged -/
structure Cur (M M' : Mg) (nx n n' : Nat) : Prop where
  le : n' ≤ n
  root : M' n' = none
  non : ∀ r, M' r = none ↔ M r = none
  down : ∀ r k, M' r = some k → k < r ∧ r < nx
  resp : ∀ h, Resp M' h ↔ Resp M h
  goes : ∀ h, Resp M h → h n = h n'
theorem Chain.cur {M : Mg} {n nx : Nat} {cs : List Nat} {x : Nat} (c : Chain M n cs x) (down : ∀ r k, M r = some k → k < r ∧ r < nx) (hx : M x = none) : Cur M (setAll M cs x) nx n x := by
  obtain ⟨l1, l2⟩ := c.lt down
  refine ⟨by omega, ?_, fun r => ?_, fun r k e => ?_, fun h => ⟨fun g r k e => ?_, fun g r k e => ?_⟩, fun h g => (c.resp g).1⟩
  · unfold setAll
    rw [if_neg (fun z => Nat.lt_irrefl _ (l2 x z))]
    exact hx
  · unfold setAll
    by_cases z : r ∈ cs
    · rw [if_pos z]
      obtain ⟨k, h1, _⟩ := c.next r z
      rw [h1]
      exact ⟨fun e => (by cases e), fun e => (by cases e)⟩
    · rw [if_neg z]
  · unfold setAll at e
    by_cases z : r ∈ cs
    · rw [if_pos z] at e
      obtain ⟨k', h1, _⟩ := c.next r z
      rw [← Option.some.inj e]
      exact ⟨l2 r z, (down _ _ h1).2⟩
    · rw [if_neg z] at e
      exact down r k e
  · have at_ : ∀ r ∈ cs, h r = h x := fun r z => g r x (by unfold setAll; rw [if_pos z])
    by_cases z : r ∈ cs
    · obtain ⟨k', h1, h2⟩ := c.next r z
      rw [e] at h1
      rw [Option.some.inj h1, at_ r z]
      rcases h2 with h2 | h2
      · exact (at_ k' h2).symm
      · rw [h2]
    · exact g r k (by unfold setAll; rw [if_neg z]; exact e)
  · unfold setAll at e
    by_cases z : r ∈ cs
    · rw [if_pos z] at e
      rw [← Option.some.inj e]
      exact (c.resp g).2 r z
    · rw [if_neg z] at e
      exact g r k e
def spCur (C : Addr) : Sp := fun vs H Q _ => ∃ (o : LFA) (E : Gr) (M : Mg) (P : Pd) (nx nl nt nm n : Nat), vs = [.ref o.p, .int (n : Nat)] ∧ LFB C o H E M P nx nl nt nm ∧ (∀ r k, M r = some k → k < r ∧ r < nx) ∧ nl + n ≤ lim ∧ nm ≤ lim ∧ n ≤ 1000 ∧
  ∀ H' r v nl' M' n', nl ≤ nl' → nl' ≤ nl + n → Fr o H H' → LFB C o H' E M' P nx nl' nt nm → Lab nl' v → H' r = some (.tup [.int (n' : Nat), v]) → Cur M M' nx n n' → Q (.ref r) H'
theorem while_m {c : TT} {tb : TS} {D : Ends} {σ : Sl} {H : Hp} (Pv : Nat → Sl → Hp → Prop) (m0 : Nat) (h0 : Pv m0 σ H)
    (hs : ∀ m σ H, Pv m σ H → c σ H fun b H1 => if b = true then ∃ N : Sl → Hp → Prop, (∀ σ' H', N σ' H' → ∃ m', m' < m ∧ Pv m' σ' H') ∧ tb { D with nx := N, ct := N, bk := D.nx } σ H1 else D.nx σ H1) : tWhile c tb D σ H := ⟨Pv, ⟨m0, h0⟩, hs⟩
section
variable {P : Program} {w : World} {K : PySem.W.Frag} {mg : Str → Option Value} {base : Heap} {f C : Addr} {fd : FuncData}
def nsCur : List Str := ["self", "node", "chain", "label", "member"]
theorem scCur : FnScope nsCur ["self", "node"] (defScope (sLF 7)) := ⟨rfl, rfl, rfl, by decide +kernel, rfl, by decide +kernel, by decide +kernel⟩
theorem ok_cur (F : MtP K "LabelledFolding.current" "current" (sLF 7) f fd) (T : LFT K C) (ZP : HasM P w K mg base 1 C "product_line" ["self", "first", "second"] (spProL C)) : FnOk P w K mg base CX0 2 f fd ["self", "node"] (spCur C) := by
  refine F.ok scCur (fun vs H Q E h => ?_) (fun cdv A outer s H vs Q E hr h => ⟨_, PSs.nox (pss_cons (ps_set (i := 2) scCur.nd rfl (Or.inl rfl) (pe_lst pa_nil))
    (pss_cons (ps_while PassesOwn.never (pt_cmp (pc_din (hu_of hr) (pv 1) (pe_fld (pv 0) rfl)))
      (pss_cons (ps_expr (pe_bm PySem.F.plainAttrs_list PySem.F.slot_list_append PySem.F.type_list_append mt_append (pv 2) (pa_cons (pv 1) pa_nil)))
      (pss_one (ps_set (i := 1) scCur.nd rfl (Or.inl rfl) (pe_ix ix_tup (pe_dget (hu_of hr) (pe_fld (pv 0) rfl) (pv 1) (fun _ _ => rfl)) pe_int (fun _ _ => rfl))))))
    (pss_cons (ps_set (i := 3) scCur.nd rfl (Or.inl rfl) pe_non)
    (pss_cons (ps_for PassesOwn.never rfl (pi_list (pe_revL (pv 2))) (pg_name (i := 4) scCur.nd rfl (Or.inl rfl))
      (pss_cons (ps_set (i := 3) scCur.nd rfl (Or.inl rfl) (pe_hm ZP T.cl hr (pv 0) (pa_cons (pe_ix ix_tup (pe_dget (hu_of hr) (pe_fld (pv 0) rfl) (pv 4) (fun _ _ => rfl)) pe_int (fun _ _ => rfl)) (pa_cons (pv 3) pa_nil))))
      (pss_one (ps_dput (hu_of hr) (pe_fld (pv 0) rfl) (pv 4) (pe_tup (pa_cons (pv 1) (pa_cons (pv 3) pa_nil))) rfl))))
    (pss_one (ps_ret (pe_tup (pa_cons (pv 1) (pa_cons (pv 3) pa_nil))))))))), ?_⟩)
  · obtain ⟨o, E, M, P, nx, nl, nt, nm, n, rfl, _⟩ := h; rfl
  · obtain ⟨o, E, M, P, nx, nl, nt, nm, n, rfl, B0, down, hl, hm, hn, q⟩ := h
    refine ⟨Nat.zero_le _, fun a na => ?_⟩
    obtain ⟨LS, kT, kM, LP, V0, e1, e2, e3, rT0, rM0, rP0⟩ := id B0.ex
    refine while_m (fun m σ H' => ∃ (x : Nat) (cs : List Nat), x = m ∧ σ = [some (.ref o.p), some (.int (x : Nat)), some (.ref a), none, none] ∧ Same H H' ∧ H' a = some (.lst (cs.map fun c => V.int (c : Nat))) ∧ Chain M n cs x) n ⟨n, [], rfl, rfl, same_new na, upd_same, .nil⟩ ?_
    rintro m σ H1 ⟨x, cs, rfl, rfl, s1, ha, hch⟩
    obtain ⟨lx, ltx⟩ := hch.lt down
    have V1 := V0.same s1
    have rM := rM0.to (samT s1) (Nat.le_refl _)
    refine ⟨_, rfl, _, rfl, o.p, C, o.dx, _, _, rfl, V1.p, T.cl, T.nm, lff_m, o.m, _, rfl, DGet.k (k := Sum.inl (x : Int)) V1.m, ?_⟩
    cases eM : M x with
    | some y =>
      obtain ⟨b, lab, h1, h2, h3⟩ := (rM x).1 y eM
      rw [h1]
      refine ⟨_, rfl, iteT ⟨_, fun _ _ h => h, ?_⟩⟩
      refine ⟨_, rfl, .inl ⟨rfl, _, SqL.of ha⟩, _, rfl, a, _, _, rfl, rfl, ha, (by rw [List.length_map]; exact Nat.lt_of_le_of_lt (show cs.length ≤ 1000 by omega) (by decide)), ?_⟩
      have s2 : Same H (upd H1 a (.lst (cs.map (fun c => V.int (c : Nat)) ++ [.int (x : Nat)]))) := same_upd s1 na
      have hb2 : upd H1 a (.lst (cs.map (fun c => V.int (c : Nat)) ++ [.int (x : Nat)])) b = some (.tup [.int (y : Nat), lab]) := by rw [upd_ne (ne_of h2 ha (by intro z; cases z))]; exact h2
      have ha2 : upd H1 a (.lst (cs.map (fun c => V.int (c : Nat)) ++ [.int (x : Nat)])) a = some (.lst ((cs ++ [x]).map fun c => V.int (c : Nat))) := by rw [upd_same, List.map_append]; rfl
      have V2 := V0.same s2
      generalize upd H1 a (.lst (cs.map (fun c => V.int (c : Nat)) ++ [.int (x : Nat)])) = H2 at s2 hb2 ha2 V2
      have g := DGet.k (k := Sum.inl (x : Int)) V2.m
      rw [h1] at g
      refine ⟨_, rfl, o.p, C, o.dx, _, _, rfl, V2.p, T.cl, T.nm, lff_m, _, rfl, o.m, _, rfl, g, b, _, _, .int (y : Nat), rfl, rfl, SqT.of hb2, atI_nat (j := 0) rfl, ?_⟩
      exact ⟨y, (down _ _ eM).1, y, cs ++ [x], rfl, rfl, s2, ha2, hch.snoc eM⟩
    | none =>
      rw [(rM x).2 eM]
      refine ⟨_, rfl, iteF ?_⟩
      refine ⟨_, rfl, a, _, rfl, SqL.of ha, fun p np => ?_⟩
      have s2 : Same H (upd H1 p (.lst (cs.map fun c => V.int (c : Nat)).reverse)) := s1.trans (same_new np)
      have cu := hch.cur down eM
      have hpl : H p = none := s1.free np
      refine ⟨p, rfl, ⟨_, SqL.of upd_same⟩, for_list (K := K) (a := p) (xs := (cs.map fun c => V.int (c : Nat)).reverse) (fun i σ H' => ∃ (lab : V) (nl' : Nat) (z : Option V), σ = [some (.ref o.p), some (.int (x : Nat)), some (.ref a), some lab, z] ∧ nl ≤ nl' ∧ nl' ≤ nl + i ∧ Fr o H H' ∧ (H' p = some (.lst (cs.map fun c => V.int (c : Nat)).reverse)) ∧ LFB C o H' E (setAll M (cs.drop (cs.length - i)) x) P nx nl' nt nm ∧ Lab nl' lab)
        ⟨.non, nl, none, rfl, Nat.le_refl _, Nat.le_refl _, Fr.of s2, upd_same, ?_, .inl rfl⟩ (fun i σ H' _ ⟨_, _, _, _, _, _, _, h, _⟩ => SqL.of h) (fun i y σ H2 hi pv => ?_) (fun σ H2 pv => ?_)⟩
      · rw [Nat.sub_zero, List.drop_length, setAll_nil]
        exact B0.same s2
      · obtain ⟨lab, nl', z, rfl, g1, g2, fr, hp2, B3, la⟩ := pv
        have hi' : i < cs.length := by
          have := (List.getElem?_eq_some_iff.mp hi).1
          rw [List.length_reverse, List.length_map] at this
          exact this
        rw [List.getElem?_reverse (by rw [List.length_map]; exact hi'), List.length_map, List.getElem?_map] at hi
        obtain ⟨mb, hmb, rfl⟩ := Option.map_eq_some_iff.mp hi
        have mem : mb ∈ cs := List.mem_of_getElem? hmb
        obtain ⟨k, hk, _⟩ := hch.next mb mem
        obtain ⟨k2, hk2⟩ : ∃ k2, setAll M (cs.drop (cs.length - i)) x mb = some k2 := by
          unfold setAll
          by_cases z : mb ∈ cs.drop (cs.length - i)
          · exact ⟨x, if_pos z⟩
          · exact ⟨k, by rw [if_neg z]; exact hk⟩
        have hdrop : cs.drop (cs.length - (i + 1)) = mb :: cs.drop (cs.length - i) := by
          have h3 : cs.length - (i + 1) = cs.length - 1 - i := by omega
          rw [h3]
          have h4 := (List.getElem?_eq_some_iff.mp hmb)
          rw [List.drop_eq_getElem_cons h4.1, h4.2]
          congr 2
          omega
        obtain ⟨LS3, kT3, kM3, LP3, V3, a1, a2, a3, rT3, rM3, rP3⟩ := B3.ex
        obtain ⟨b, lab2, h1, h2, h3⟩ := (rM3 mb).1 k2 hk2
        have g := DGet.k (k := Sum.inl (mb : Int)) V3.m
        rw [h1] at g
        refine ⟨_, rfl, o.p, o.dx, _, rfl, V3.p, lff_no (by decide +kernel), _, rfl, o.p, C, o.dx, _, _, rfl, V3.p, T.cl, T.nm, lff_m, _, rfl, o.m, _, rfl, g, b, _, _, lab2, rfl, rfl, SqT.of h2, atI_nat (j := 1) rfl, _, rfl, ?_⟩
        refine ⟨o, E, _, P, nx, nl', nt, nm, lab2, lab, rfl, B3, by omega, h3, la, fun H4 v4 nl4 l4 m4 f4 B4 la4 => ?_⟩
        have hp4 : H4 p = some (.lst (cs.map fun c => V.int (c : Nat)).reverse) := by
          exact f4 _ _ hp2 (ne_of_none V0.p hpl).symm (ne_of_none V0.l hpl).symm (ne_of_none V0.t hpl).symm (ne_of_none V0.m hpl).symm (ne_of_none V0.q hpl).symm
        refine ⟨_, rfl, _, rfl, (by show 2 ≤ sizeLine; decide), fun b5 nb5 => ?_⟩
        have s5 := same_new (o := .tup [.int (x : Nat), v4]) nb5
        obtain ⟨LS5, kT5, kM5, LP5, V5, c1, c2, c3, rT5, rM5, rP5⟩ := (B4.same s5).ex
        obtain ⟨b6, lab6, w1, _, _⟩ := (rM5 mb).1 k2 hk2
        have len5 : kM5.length < sizeLine := by rw [c3]; exact lim_lt hm
        refine ⟨_, rfl, o.p, C, o.dx, _, _, rfl, V5.p, T.cl, T.nm, lff_m, _, rfl, o.m, _, rfl, DPut.k (k := Sum.inl (mb : Int)) V5.m len5, ?_⟩
        have V6 := V5.setM (putK kM5 (.inl (mb : Int)) (.ref b5))
        have ts := V5.frt (fr_m (u := .dK (putK kM5 (.inl (mb : Int)) (.ref b5))))
        have hp6 : upd (upd H4 b5 (.tup [.int (x : Nat), v4])) o.m (.dK (putK kM5 (.inl (mb : Int)) (.ref b5))) p = some (.lst (cs.map fun c => V.int (c : Nat)).reverse) := by
          rw [upd_ne (ne_of (s5 _ _ hp4) V5.m (by intro z; cases z))]
          exact s5 _ _ hp4
        refine ⟨v4, nl4, _, rfl, by omega, by omega, (fr.trans f4).trans ((Fr.of s5).trans fr_m), hp6, ?_, la4⟩
        rw [hdrop, ← setAll_cons]
        exact ⟨LS5, kT5, _, LP5, V6, c1, c2, (by rw [len_put w1]; exact c3), rT5.to ts (Nat.le_refl _), (rM5.put upd_same la4).to ts (Nat.le_refl _), rP5.to ts (Nat.le_refl _)⟩
      · obtain ⟨lab, nl', z, rfl, g1, g2, fr, hp2, B3, la⟩ := pv
        rw [List.length_reverse, List.length_map] at g2 B3
        rw [Nat.sub_self, List.drop_zero] at B3
        refine ⟨_, rfl, _, rfl, (by show 2 ≤ sizeLine; decide), fun r nr => ?_⟩
        have s5 := same_new (o := .tup [.int (x : Nat), lab]) nr
        exact q _ r lab nl' _ x g1 (by omega) (fr.trans (Fr.of s5)) (B3.same s5) la upd_same cu
end
end K73
set_option Elab.async false
set_option linter.all false
set_option maxRecDepth 100000
set_option maxHeartbeats 2000000
/-! K73LM5: two nodes are merged. -/
namespace K73
open PySem PySem.Spec PyProof.Rows L2
theorem outG_del {E : Gr} {u c t : Nat} : outG (outG E u c) t (inv c) = delG E u c t := by
  funext x d
  unfold outG delG
  by_cases z : x = t ∧ d = inv c
  · rw [if_pos z, if_pos (.inr z)]
  · by_cases z2 : x = u ∧ d = c
    · rw [if_neg z, if_pos z2, if_pos (.inl z2)]
    · rw [if_neg z, if_neg z2, if_neg (fun q => q.elim z2 z)]
theorem EdgeTo.adds {E : Gr} {M : Mg} {P : Pd} {nx u c v : Nat} {E' : Gr} {P' : Pd} (x : EdgeTo E P u c v E' P') (g : LFI E M P nx) (hc : isStep c) (hu : u < nx) (hv : v < nx) (lu : M u = none) (lv : M v = none) : Adds E M P nx u c v E' P' := by
  rcases x with ⟨n, e, rfl, rfl⟩ | ⟨n, _, e, rfl, rfl⟩ | ⟨e1, e2, rfl, rfl⟩
  · exact adds_known g hc hv e
  · exact adds_back g hc hu e
  · exact adds_new g hc hu hv lu lv e1 e2
theorem EdgeTo.len {E : Gr} {P : Pd} {u c v : Nat} {E' : Gr} {P' : Pd} (x : EdgeTo E P u c v E' P') : P'.length ≤ P.length + 1 := by
  rcases x with ⟨n, e, rfl, rfl⟩ | ⟨n, _, e, rfl, rfl⟩ | ⟨e1, e2, rfl, rfl⟩ <;> simp
theorem Mrg.turn {E0 : Gr} {M : Mg} {P0 : Pd} {nx kept rem c t : Nat} {done : List Nat} {E E' : Gr} {P P' : Pd} (m : Mrg E0 M P0 nx kept rem done E P) (e : E rem c = some t) (hM : M rem = some kept) (hk : M kept = none) (kn : kept < nx)
    (down : ∀ r k, M r = some k → k < r ∧ r < nx) (x : EdgeTo (delG E rem c t) P kept c (if t = rem then kept else t) E' P') : Mrg E0 M P0 nx kept rem (done ++ [c]) E' P' := by
  have ne : kept ≠ rem := fun z => by rw [z, hM] at hk; cases hk
  obtain ⟨hc, eb⟩ := m.einv _ _ _ e
  obtain ⟨k1, k2, k3, k4⟩ := m.take e
  have lt := (m.live _ _ _ e).2
  have mNone : ∀ y, (fun y => if y = rem then none else M y) y = none ↔ (M y = none ∨ y = rem) := fun y => by
    show (if y = rem then none else M y) = none ↔ _
    by_cases z : y = rem
    · rw [if_pos z]; exact ⟨fun _ => .inr z, fun _ => rfl⟩
    · rw [if_neg z]; exact ⟨fun h => .inl h, fun h => h.elim id fun h => absurd h z⟩
  have mSome : ∀ y k, (fun y => if y = rem then none else M y) y = some k → M y = some k := fun y k h => by
    have h : (if y = rem then none else M y) = some k := h
    by_cases z : y = rem
    · rw [if_pos z] at h; cases h
    · rw [if_neg z] at h; exact h
  have g : LFI (delG E rem c t) (fun y => if y = rem then none else M y) P nx :=
    ⟨k1, fun u d v q => ⟨⟨(mNone u).mpr (k2 u d v q).1.1, (k2 u d v q).1.2⟩, (mNone v).mpr (k2 u d v q).2.1, (k2 u d v q).2.2⟩, fun r k h => down r k (mSome r k h), m.pend, Nat.lt_of_le_of_lt (Nat.zero_le _) kn⟩
  have ht' : (if t = rem then kept else t) < nx ∧ (if t = rem then kept else t) ≠ rem ∧ (M (if t = rem then kept else t) = none ∨ (if t = rem then kept else t) = rem) := by
    by_cases z : t = rem
    · rw [if_pos z]; exact ⟨kn, ne, .inl hk⟩
    · rw [if_neg z]; exact ⟨lt.2, z, lt.1⟩
  have A := x.adds g hc kn ht'.1 ((mNone _).mpr (.inl hk)) ((mNone _).mpr ht'.2.2)
  refine m.next e hM A.lfi.einv (fun u d v q => ⟨⟨(mNone u).mp (A.lfi.live u d v q).1.1, (A.lfi.live u d v q).1.2⟩, (mNone v).mp (A.lfi.live u d v q).2.1, (A.lfi.live u d v q).2.2⟩) A.lfi.pend (fun d hd => ?_) fun D h hD => ?_
  · rcases x with ⟨n, _, rfl, _⟩ | ⟨n, _, _, rfl, _⟩ | ⟨_, _, rfl, _⟩
    · exact hd
    · exact hd
    · rw [setG_ne (fun z => ht'.2.1 z.1.symm), setG_ne (fun z => ne z.1.symm)]
      exact hd
  · have q := A.comp D h hD
    constructor
    · rintro ⟨c1, c2, c3⟩
      have z := q.mp ⟨c1, fun r k hr => c2 r k (mSome r k hr), c3⟩
      exact ⟨⟨z.1.1, c2, z.1.2.2⟩, z.2⟩
    · rintro ⟨⟨c1, c2, c3⟩, c4⟩
      have z := q.mpr ⟨⟨c1, fun r k hr => c2 r k (mSome r k hr), c3⟩, c4⟩
      exact ⟨z.1, c2, z.2.2⟩
def spMerge (C : Addr) : Sp := fun vs H Q _ => ∃ (o : LFA) (E : Gr) (M : Mg) (P : Pd) (nx nl nt nm kept rem : Nat) (lab : V), vs = [.ref o.p, .int (kept : Nat), .int (rem : Nat), lab] ∧ LFB C o H E M P nx nl nt nm ∧ LFI E M P nx ∧ kept < rem ∧ rem < nx ∧ M kept = none ∧ M rem = none ∧
  nl + 33 ≤ lim ∧ nt ≤ lim ∧ nm + 1 ≤ lim ∧ P.length + 8 ≤ lim ∧ Lab nl lab ∧
  ∀ H' E' P' nl' nt', nl ≤ nl' → nl' ≤ nl + 33 → nt' ≤ nt → P'.length ≤ P.length + 8 → Fr o H H' → LFB C o H' E' (setM M rem kept) P' nx nl' nt' (nm + 1) → LFI E' (setM M rem kept) P' nx →
    (∀ (D : Gr) (h : Nat → Nat), InvCl D → (CompS D h E' (setM M rem kept) P' ↔ CompS D h E (setM M rem kept) P)) → Q .non H'
section
variable {P : Program} {w : World} {K : PySem.W.Frag} {mg : Str → Option Value} {base : Heap} {f C : Addr} {fd : FuncData}
def nsMerge : List Str := ["self", "kept", "removed", "label", "back_label", "step", "target", "edge_label"]
def psMerge : List Str := ["self", "kept", "removed", "label"]
theorem scMerge : FnScope nsMerge psMerge (defScope (sLF 9)) := ⟨rfl, rfl, rfl, by decide +kernel, rfl, by decide +kernel, by decide +kernel⟩
theorem ok_merge (F : MtP K "LabelledFolding.merge" "merge" (sLF 9) f fd) (B : Bi mg) (T : LFT K C) (ZI : HasM P w K mg base 1 C "inverse_line" ["self", "line"] (spInvL C)) (ZP : HasM P w K mg base 1 C "product_line" ["self", "first", "second"] (spProL C))
    (ZA : HasM P w K mg base 2 C "add_edge" psAddE (spAddE C)) : FnOk P w K mg base CX0 3 f fd psMerge (spMerge C) := by
  refine F.ok scMerge (fun vs H Q E h => ?_) (fun cdv A outer s H vs Q E hr h => ⟨_, PSs.nox (pss_cons (ps_dput (hu_of hr) (pe_fld (pv 0) rfl) (pv 2) (pe_tup (pa_cons (pv 1) (pa_cons (pv 3) pa_nil))) rfl)
    (pss_cons (ps_set (i := 4) scMerge.nd rfl (Or.inl rfl) (pe_hm ZI T.cl (hr.mono (by decide)) (pv 0) (pa_cons (pv 3) pa_nil)))
    (pss_one (ps_for PassesOwn.never rfl (pi_str (pe_constS B.STEPS)) (pg_name (i := 5) scMerge.nd rfl (Or.inl rfl))
      (pss_one (ps_if (pt_cmp (pc_din (hu_of hr) (pe_tup (pa_cons (pv 2) (pa_cons (pv 5) pa_nil))) (pe_fld (pv 0) rfl)))
        (pss_cons (ps_asg (pe_bm PySem.F.plainAttrs_dict PySem.F.slot_dict_pop PySem.F.type_dict_pop (mt_popT1 (hu_of hr)) (pe_fld (pv 0) rfl) (pa_cons (pe_tup (pa_cons (pv 2) (pa_cons (pv 5) pa_nil))) pa_nil)) (pg_tup rfl (pgs_cons (pg_name (i := 6) scMerge.nd rfl (Or.inl rfl)) (pgs_cons (pg_name (i := 7) scMerge.nd rfl (Or.inl rfl)) pgs_nil))))
        (pss_cons (ps_expr (pe_bm PySem.F.plainAttrs_dict PySem.F.slot_dict_pop PySem.F.type_dict_pop (mt_popT1 (hu_of hr)) (pe_fld (pv 0) rfl) (pa_cons (pe_tup (pa_cons (pv 6) (pa_cons (pe_bm0 PySem.F.plainAttrs_str PySem.F.slot_str_swapcase PySem.F.type_str_swapcase mt_swap (pv 5)) pa_nil))) pa_nil)))
        (pss_cons (ps_if (pt_cmpR op_eq (pv 6) (pv 2) (nomark _)) (pss_one (ps_par (i := 6) (j := 7) rfl scMerge.nd rfl rfl (by decide) rfl rfl (pa_cons (pv 1) (pa_cons (pe_hm ZP T.cl (hr.mono (by decide)) (pv 0) (pa_cons (pv 7) (pa_cons (pv 3) pa_nil))) pa_nil)) (by rfl))) pss_nil)
        (pss_one (ps_expr (pe_hm ZA T.cl hr (pv 0) (pa_cons (pv 1) (pa_cons (pv 5) (pa_cons (pv 6) (pa_cons (pe_hm ZP T.cl (hr.mono (by decide)) (pv 0) (pa_cons (pv 4) (pa_cons (pv 7) pa_nil))) pa_nil)))))))))) pss_nil)))))), ?_⟩)
  · obtain ⟨o, E, M, P, nx, nl, nt, nm, kept, rem, lab, rfl, _⟩ := h; rfl
  · obtain ⟨o, E, M, P, nx, nl, nt, nm, kept, rem, lab, rfl, B0, g0, kr, rn, mk, mr, hl, ht, hm, hp, la, q⟩ := h
    -- self.merged[removed] = (kept, label)
    refine ⟨_, rfl, _, rfl, (by show 2 ≤ sizeLine; decide), fun b1 nb1 => ?_⟩
    have s1 := same_new (o := .tup [.int (kept : Nat), lab]) nb1
    obtain ⟨LS, kT, kM, LP, V1, e1, e2, e3, rT, rM, rP⟩ := (B0.same s1).ex
    refine ⟨_, rfl, o.p, C, o.dx, _, _, rfl, V1.p, T.cl, T.nm, lff_m, _, rfl, o.m, _, rfl, DPut.k (k := Sum.inl (rem : Int)) V1.m (by rw [e3]; exact lim_lt (by omega)), ?_⟩
    have V2 := V1.setM (putK kM (.inl (rem : Int)) (.ref b1))
    have f2 : Fr o H _ := (Fr.of s1).trans (fr_m (u := .dK (putK kM (.inl (rem : Int)) (.ref b1))))
    have ts := V1.frt (fr_m (u := .dK (putK kM (.inl (rem : Int)) (.ref b1))))
    have l2 : (putK kM (.inl (rem : Int)) (.ref b1)).length = nm + 1 := by
      rw [putK_new _ ((rM rem).2 mr), List.length_append, e3]; rfl
    have B2 : LFB C o _ E (setM M rem kept) P nx nl nt (nm + 1) := ⟨LS, kT, _, LP, V2, e1, e2, l2, rT.to ts (Nat.le_refl _), (rM.put upd_same la).to ts (Nat.le_refl _), rP.to ts (Nat.le_refl _)⟩
    clear ts
    generalize upd (upd H b1 (.tup [.int (kept : Nat), lab])) o.m (.dK (putK kM (.inl (rem : Int)) (.ref b1))) = H2 at V2 f2 B2
    -- back_label
    refine ⟨_, rfl, o.p, o.dx, _, rfl, V2.p, lff_no (by decide +kernel), _, rfl, ?_⟩
    refine ⟨o, E, _, P, nx, nl, nt, nm + 1, lab, rfl, B2, by omega, la, fun H3 bl nl3 l3 m3 f3 B3 la3 => ?_⟩
    have mrem : setM M rem kept rem = some kept := if_pos rfl
    have mkept : setM M rem kept kept = none := (if_neg (Nat.ne_of_lt kr)).trans mk
    have down : ∀ r k, setM M rem kept r = some k → k < r ∧ r < nx := fun r k e => by
      unfold setM at e
      by_cases z : r = rem
      · rw [if_pos z] at e
        rw [← Option.some.inj e, z]; exact ⟨kr, rn⟩
      · rw [if_neg z] at e; exact g0.down r k e
    have kn : kept < nx := Nat.lt_trans kr rn
    refine ⟨_, rfl, ?_⟩
    rw [steps_tx]
    refine for_it walk_str (fun i σ H' => ∃ (E' : Gr) (P' : Pd) (nl' nt' : Nat) (z1 z2 z3 : Option V), σ = [some (.ref o.p), some (.int (kept : Nat)), some (.int (rem : Nat)), some lab, some bl, z1, z2, z3] ∧ nl3 ≤ nl' ∧ nl' ≤ nl3 + 4 * i ∧ nt' ≤ nt ∧ P'.length ≤ P.length + i ∧ Fr o H H' ∧
        LFB C o H' E' (setM M rem kept) P' nx nl' nt' (nm + 1) ∧ Mrg E (setM M rem kept) P nx kept rem (stepsL.take i) E' P')
      ⟨E, P, nl3, nt, none, none, none, rfl, Nat.le_refl _, by omega, Nat.le_refl _, by omega, f2.trans f3, B3, Mrg.start g0 mr⟩ (fun _ _ _ _ _ => trivial) (fun i x σ H4 H5 hi p y => ?_) (fun σ H4 p => ?_)
    · obtain ⟨E4, P4, nl4, nt4, z1, z2, z3, rfl, g1, g2, g3, g4, fr, B4, mg4⟩ := p
      obtain ⟨rfl, c, hc, rfl⟩ := y
      rw [tx_get] at hc
      rw [ch_ref]
      have hi8 : i < 8 := by rw [tx_size] at hi; exact hi
      have hcs : isStep c := isStep_iff.mpr (List.mem_of_getElem? hc)
      have tk : stepsL.take (i + 1) = stepsL.take i ++ [c] := take_succ' hc
      refine ⟨_, rfl, _, rfl, (by show 2 ≤ sizeLine; decide), fun b2 nb2 => ?_⟩
      have s2 := same_new (o := .tup [.int (rem : Nat), .str (ch c)]) nb2
      have hb2 := upd_same (H := H5) (a := b2) (o := .tup [.int (rem : Nat), .str (ch c)])
      have B5 := B4.same s2
      have fr5 := fr.trans (Fr.of s2)
      generalize upd H5 b2 (.tup [.int (rem : Nat), .str (ch c)]) = H6 at hb2 B5 fr5
      obtain ⟨LS, kT, kM, LP, V5, a1, a2, a3, rT, rM, rP⟩ := id B5.ex
      refine ⟨_, rfl, o.p, C, o.dx, _, _, rfl, V5.p, T.cl, T.nt, lff_t, o.t, _, rfl, DGet.t (k := key rem c) V5.t hb2, ?_⟩
      cases eE : E4 rem c with
      | none =>
        rw [(rT rem c).2 eE]
        refine ⟨_, rfl, iteF ?_⟩
        exact ⟨E4, P4, nl4, nt4, _, _, _, rfl, g1, by omega, g3, by omega, fr5, B5, by rw [tk]; exact mg4.skip eE⟩
      | some t =>
        obtain ⟨bt, edl, h1, h2, h3⟩ := (rT rem c).1 t eE
        rw [h1]
        refine ⟨_, rfl, iteT ?_⟩
        -- the first pop
        refine ⟨_, rfl, o.p, C, o.dx, _, _, rfl, V5.p, T.cl, T.nt, lff_t, .inr (.inr (.inl ⟨rfl, .inr ⟨_, V5.t⟩⟩)), _, rfl, _, rfl, (by show 2 ≤ sizeLine; decide), fun b3 nb3 => ?_⟩
        have s3 := same_new (o := .tup [.int (rem : Nat), .str (ch c)]) nb3
        have V6 := V5.same s3
        refine ⟨o.t, kT, key rem c, b3, .ref bt, rfl, rfl, V6.t, upd_same, h1, ?_⟩
        have hbt : upd (upd H6 b3 (.tup [.int (rem : Nat), .str (ch c)])) o.t (.dT (dropK kT (key rem c))) bt = some (.tup [.int (t : Nat), edl]) := by
          rw [upd_ne (V6.tup (s3 _ _ h2)).2.2.1]; exact s3 _ _ h2
        refine ⟨bt, _, rfl, SqT.of hbt, rfl, _, _, rfl, _, _, rfl, rfl, ?_⟩
        have V7 := V6.setT (dropK kT (key rem c))
        have f7 := fr5.trans ((Fr.of s3).trans (fr_t (u := .dT (dropK kT (key rem c)))))
        have ts7 := V6.frt (fr_t (u := .dT (dropK kT (key rem c))))
        have rT7 := ((rT.to (samT s3) (Nat.le_refl _)).drop (u := rem) (c := c)).to ts7 (Nat.le_refl _)
        have rM7 := (rM.to (samT s3) (Nat.le_refl _)).to ts7 (Nat.le_refl _)
        have rP7 := (rP.to (samT s3) (Nat.le_refl _)).to ts7 (Nat.le_refl _)
        have l7 : (dropK kT (key rem c)).length + 1 ≤ nt4 := by rw [← a2]; exact len_drop h1
        generalize upd (upd H6 b3 (.tup [.int (rem : Nat), .str (ch c)])) o.t (.dT (dropK kT (key rem c))) = H7 at V7 f7 rT7 rM7 rP7
        generalize dropK kT (key rem c) = kT7 at V7 rT7 l7
        -- the second pop
        refine ⟨_, rfl, o.p, C, o.dx, _, _, rfl, V7.p, T.cl, T.nt, lff_t, .inr (.inr (.inl ⟨rfl, .inr ⟨_, V7.t⟩⟩)), _, rfl, _, rfl, rfl, ch c, rfl, rfl, (by rw [swap_step hcs]; rfl), ?_⟩
        rw [swap_step hcs]
        refine ⟨(by show 2 ≤ sizeLine; decide), fun b8 nb8 => ?_⟩
        have s8 := same_new (o := .tup [.int (t : Nat), .str (ch (inv c))]) nb8
        have V8 := V7.same s8
        obtain ⟨_, eB⟩ := mg4.einv _ _ _ eE
        have eB7 : outG E4 rem c t (inv c) = some rem := by
          unfold outG
          rw [if_neg (fun z => inv_ne hcs z.2)]
          exact eB
        obtain ⟨bb, lb, k1, _, _⟩ := (rT7 t (inv c)).1 rem eB7
        refine ⟨o.t, kT7, key t (inv c), b8, .ref bb, rfl, rfl, V8.t, upd_same, k1, ?_⟩
        have V9 := V8.setT (dropK kT7 (key t (inv c)))
        have f9 := f7.trans ((Fr.of s8).trans (fr_t (u := .dT (dropK kT7 (key t (inv c))))))
        have ts9 := V8.frt (fr_t (u := .dT (dropK kT7 (key t (inv c)))))
        have rT9 := ((rT7.to (samT s8) (Nat.le_refl _)).drop (u := t) (c := inv c)).to ts9 (Nat.le_refl _)
        have rM9 := (rM7.to (samT s8) (Nat.le_refl _)).to ts9 (Nat.le_refl _)
        have rP9 := (rP7.to (samT s8) (Nat.le_refl _)).to ts9 (Nat.le_refl _)
        have l9 : (dropK kT7 (key t (inv c))).length + 2 ≤ nt4 := by
          have := len_drop k1
          omega
        generalize upd (upd H7 b8 (.tup [.int (t : Nat), .str (ch (inv c))])) o.t (.dT (dropK kT7 (key t (inv c)))) = H9 at V9 f9 rT9 rM9 rP9
        generalize dropK kT7 (key t (inv c)) = kT9 at V9 rT9 l9
        rw [outG_del] at rT9
        have B9 : LFB C o H9 (delG E4 rem c t) (setM M rem kept) P4 nx nl4 kT9.length (nm + 1) := ⟨LS, kT9, kM, LP, V9, a1, rfl, a3, rT9, rM9, rP9⟩
        -- target == removed
        refine ⟨_, rfl, _, rfl, rfl, _, rfl, iteD (fun z => ?_) fun z => ?_⟩
        · have z : t = rem := by have := V.int.inj z; omega
          refine ⟨_, rfl, _, rfl, o.p, o.dx, _, rfl, V9.p, lff_no (by decide +kernel), _, rfl, _, rfl, ?_⟩
          refine ⟨o, _, _, P4, nx, nl4, _, _, edl, lab, rfl, B9, by omega, h3, la.mono (by omega), fun H10 v10 nl10 l10 m10 f10 B10 la10 => ?_⟩
          refine ⟨_, _, rfl, ?_⟩
          obtain ⟨_, _, _, _, V10, _⟩ := id B10.ex
          refine ⟨_, rfl, o.p, o.dx, _, rfl, V10.p, lff_no (by decide +kernel), _, rfl, _, rfl, _, rfl, _, rfl, o.p, o.dx, _, rfl, V10.p, lff_no (by decide +kernel), _, rfl, _, rfl, ?_⟩
          refine ⟨o, _, _, P4, nx, nl10, _, _, bl, v10, rfl, B10, by omega, la3.mono (by omega), la10, fun H11 v11 nl11 l11 m11 f11 B11 la11 => ?_⟩
          refine ⟨o, _, _, P4, nx, nl11, _, _, kept, c, kept, v11, rfl, B11, hcs, by omega, by omega, by omega, la11, fun H12 E12 P12 nl12 nt12 l12 m12 t12 f12 B12 ed => ?_⟩
          have len := ed.len
          refine ⟨E12, P12, nl12, nt12, _, _, _, rfl, by omega, by omega, by omega, by omega, ((f9.trans f10).trans f11).trans f12, B12, ?_⟩
          rw [tk]
          exact mg4.turn eE mrem mkept kn down (by rw [if_pos z]; exact ed)
        · have z : t ≠ rem := fun q => z (by rw [q])
          refine ⟨_, rfl, o.p, o.dx, _, rfl, V9.p, lff_no (by decide +kernel), _, rfl, _, rfl, _, rfl, _, rfl, o.p, o.dx, _, rfl, V9.p, lff_no (by decide +kernel), _, rfl, _, rfl, ?_⟩
          refine ⟨o, _, _, P4, nx, nl4, _, _, bl, edl, rfl, B9, by omega, la3.mono (by omega), h3, fun H11 v11 nl11 l11 m11 f11 B11 la11 => ?_⟩
          refine ⟨o, _, _, P4, nx, nl11, _, _, kept, c, t, v11, rfl, B11, hcs, by omega, by omega, by omega, la11, fun H12 E12 P12 nl12 nt12 l12 m12 t12 f12 B12 ed => ?_⟩
          have len := ed.len
          refine ⟨E12, P12, nl12, nt12, _, _, _, rfl, by omega, by omega, by omega, by omega, (f9.trans f11).trans f12, B12, ?_⟩
          rw [tk]
          exact mg4.turn eE mrem mkept kn down (by rw [if_neg z]; exact ed)
    · obtain ⟨E4, P4, nl4, nt4, z1, z2, z3, rfl, g1, g2, g3, g4, fr, B4, mg4⟩ := p
      rw [tx_size] at g2 g4 mg4
      have l8 : stepsL.length = 8 := rfl
      rw [l8] at g2 g4
      rw [List.take_length] at mg4
      exact q _ E4 P4 nl4 nt4 (by omega) (by omega) g3 g4 fr B4 (mg4.fin (fun c hc => isStep_iff.mp hc) down g0.one) mg4.comp
end
end K73
set_option Elab.async false
set_option linter.all false
set_option maxRecDepth 100000
set_option maxHeartbeats 2000000
/-! K73LM6: what is pending is merged. -/
namespace K73
open PySem PySem.Spec PyProof.Rows L2
/-- how many nodes below nx are not merged into another -/
def alive (M : Mg) (nx : Nat) : Nat := ((List.range nx).filter fun r => (M r).isNone).length
theorem alive_same {M M' : Mg} {nx : Nat} (h : ∀ r, M' r = none ↔ M r = none) : alive M' nx = alive M nx := by
  unfold alive
  congr 1
  refine List.filter_congr fun r _ => ?_
  cases e : M r with
  | none => rw [(h r).mpr e]
  | some k =>
    cases e' : M' r with
    | none => rw [(h r).mp e'] at e; cases e
    | some k' => rfl
theorem alive_succ {M : Mg} {nx : Nat} (h : M nx = none) : alive M (nx + 1) = alive M nx + 1 := by
  unfold alive
  rw [List.range_succ, List.filter_append]
  have e : List.filter (fun r => (M r).isNone) [nx] = [nx] := by simp [h]
  rw [e, List.length_append]
  rfl
theorem alive_setM {M : Mg} {rem kept : Nat} (h : M rem = none) : ∀ {nx : Nat}, rem < nx → alive (setM M rem kept) nx + 1 = alive M nx := fun {nx} hr => by
  unfold alive
  induction nx with
  | zero => omega
  | succ n ih =>
    rw [List.range_succ, List.filter_append, List.filter_append, List.length_append, List.length_append]
    by_cases z : rem = n
    · subst z
      have e1 : List.filter (fun r => (setM M rem kept r).isNone) [rem] = [] := by simp [setM]
      have e2 : List.filter (fun r => (M r).isNone) [rem] = [rem] := by simp [h]
      have e3 : List.filter (fun r => (setM M rem kept r).isNone) (List.range rem) = List.filter (fun r => (M r).isNone) (List.range rem) := by
        refine List.filter_congr fun r hr => ?_
        have : r ≠ rem := Nat.ne_of_lt (List.mem_range.mp hr)
        unfold setM
        rw [if_neg this]
      rw [e1, e2, e3]
      rfl
    · have q := ih (by omega)
      have e1 : List.filter (fun r => (setM M rem kept r).isNone) [n] = List.filter (fun r => (M r).isNone) [n] := by
        refine List.filter_congr fun r hr => ?_
        have : r ≠ rem := by rw [List.mem_singleton.mp hr]; exact fun q => z q.symm
        unfold setM
        rw [if_neg this]
      rw [e1]
      omega
theorem alive_le {M : Mg} {nx : Nat} : alive M nx ≤ nx := by
  have q := List.length_filter_le (fun r => (M r).isNone) (List.range nx)
  rw [List.length_range] at q
  exact q
theorem CompS.set {D : Gr} {h : Nat → Nat} {E : Gr} {M : Mg} {P : Pd} {rem kept : Nat} (hr : M rem = none) : CompS D h E (setM M rem kept) P ↔ CompS D h E M P ∧ h rem = h kept := by
  constructor
  · rintro ⟨c1, c2, c3⟩
    refine ⟨⟨c1, fun r k e => c2 r k ?_, c3⟩, c2 rem kept (if_pos rfl)⟩
    unfold setM
    rw [if_neg (fun z => by rw [z, hr] at e; cases e)]
    exact e
  · rintro ⟨⟨c1, c2, c3⟩, e⟩
    refine ⟨c1, fun r k q => ?_, c3⟩
    unfold setM at q
    by_cases z : r = rem
    · rw [if_pos z] at q
      rw [z, ← Option.some.inj q]; exact e
    · rw [if_neg z] at q
      exact c2 r k q
/-- the same graph with the nodes merged otherwise -/
theorem Cur.lfi {E : Gr} {M M' : Mg} {P : Pd} {nx n n' : Nat} (c : Cur M M' nx n n') (g : LFI E M P nx) : LFI E M' P nx :=
  ⟨g.einv, fun u d v e => ⟨⟨(c.non u).mpr (g.live u d v e).1.1, (g.live u d v e).1.2⟩, (c.non v).mpr (g.live u d v e).2.1, (g.live u d v e).2.2⟩, c.down, g.pend, g.one⟩
theorem Cur.comp {E : Gr} {M M' : Mg} {P : Pd} {nx n n' : Nat} (c : Cur M M' nx n n') (D : Gr) (h : Nat → Nat) : CompS D h E M P ↔ CompS D h E M' P :=
  ⟨fun k => ⟨k.1, (c.resp h).mpr k.2.1, k.2.2⟩, fun k => ⟨k.1, (c.resp h).mp k.2.1, k.2.2⟩⟩
def spMP (C : Addr) : Sp := fun vs H Q _ => ∃ (o : LFA) (E : Gr) (M : Mg) (P : Pd) (nx nl nt nm b : Nat) (ps : List (List Nat)), vs = [.ref o.p] ∧ LFB C o H E M P nx nl nt nm ∧ LFI E M P nx ∧ LFS E M P ps ∧ nx ≤ 150 ∧ nm + alive M nx = nx ∧ nt ≤ lim ∧
  nl + 400 * (P.length + 9 * alive M nx) ≤ b ∧ b ≤ lim ∧
  ∀ H' E' M' nl' nt' nm', Fr o H H' → LFB C o H' E' M' [] nx nl' nt' nm' → LFI E' M' [] nx → LFS E' M' [] ps → nm' + alive M' nx = nx → nt' ≤ nt → nl' + 400 * (9 * alive M' nx) ≤ b → Q .non H'
theorem lab_plain {K : PySem.W.Frag} {H : Hp} {n : Nat} {v : V} (h : Lab n v) : ∃ d, Dp K H v d ∧ d.canLay0 = true ∧ d.depth = 0 := by
  rcases h with rfl | ⟨i, rfl, _⟩
  · exact ⟨_, .non, by simp [PyData.canLay0], by simp [PyData.depth]⟩
  · exact ⟨_, .int _, by simp [PyData.canLay0], by simp [PyData.depth]⟩
theorem PRel.plain {K : PySem.W.Frag} {H : Hp} {n : Nat} {LP : List V} {P : Pd} (r : PRel H n LP P) : ∀ x ∈ LP, Plain K H x := fun x hx => by
  obtain ⟨i, hi, rfl⟩ := List.mem_iff_getElem.mp hx
  have hi' : i < P.length := by rw [← r.1]; exact hi
  obtain ⟨b, lab, h1, h2, h3⟩ := r.2 i P[i] (List.getElem?_eq_getElem hi')
  rw [List.getElem?_eq_getElem hi] at h1
  rw [Option.some.inj h1]
  obtain ⟨d, hd, c, e⟩ := lab_plain (K := K) (H := H) h3
  refine ⟨.tuple [.int _, .int _, d], .tup (SqT.of h2) (.cons (.int _) (.cons (.int _) (.cons hd .nil))), ?_, ?_⟩
  · simp [PyData.canLay0, PyData.canLayAll0, c]
  · simp [PyData.depth, PyData.depthAll, e]
section
variable {P : Program} {w : World} {K : PySem.W.Frag} {mg : Str → Option Value} {base : Heap} {f C : Addr} {fd : FuncData}
def nsMP : List Str := ["self", "first", "second", "label", "first_label", "second_label"]
theorem scMP : FnScope nsMP ["self"] (defScope (sLF 8)) := ⟨rfl, rfl, rfl, by decide +kernel, rfl, by decide +kernel, by decide +kernel⟩
theorem ok_MP (F : MtP K "LabelledFolding.merge_pending" "merge_pending" (sLF 8) f fd) (T : LFT K C) (ZI : HasM P w K mg base 1 C "inverse_line" ["self", "line"] (spInvL C)) (ZP : HasM P w K mg base 1 C "product_line" ["self", "first", "second"] (spProL C))
    (ZC : HasM P w K mg base 2 C "current" ["self", "node"] (spCur C)) (ZM : HasM P w K mg base 3 C "merge" psMerge (spMerge C)) : FnOk P w K mg base CX0 4 f fd ["self"] (spMP C) := by
  refine F.ok scMP (fun vs H Q E h => ?_) (fun cdv A outer s H vs Q E hr h => ⟨_, PSs.nox (pss_one (ps_while PassesOwn.never (pt_cmpR (op_neD (room64 hr)) (pe_fld (pv 0) rfl) (pe_lst pa_nil) (nomark _))
      (pss_cons (ps_asg (pe_bm0 PySem.F.plainAttrs_list PySem.F.slot_list_pop PySem.F.type_list_pop mt_pop (pe_fld (pv 0) rfl)) (pg_tup rfl (pgs_cons (pg_name (i := 1) scMP.nd rfl (Or.inl rfl)) (pgs_cons (pg_name (i := 2) scMP.nd rfl (Or.inl rfl)) (pgs_cons (pg_name (i := 3) scMP.nd rfl (Or.inl rfl)) pgs_nil)))))
      (pss_cons (ps_asg (pe_hm ZC T.cl (hr.mono (by decide)) (pv 0) (pa_cons (pv 1) pa_nil)) (pg_tup rfl (pgs_cons (pg_name (i := 1) scMP.nd rfl (Or.inl rfl)) (pgs_cons (pg_name (i := 4) scMP.nd rfl (Or.inl rfl)) pgs_nil))))
      (pss_cons (ps_asg (pe_hm ZC T.cl (hr.mono (by decide)) (pv 0) (pa_cons (pv 2) pa_nil)) (pg_tup rfl (pgs_cons (pg_name (i := 2) scMP.nd rfl (Or.inl rfl)) (pgs_cons (pg_name (i := 5) scMP.nd rfl (Or.inl rfl)) pgs_nil))))
      (pss_one (ps_if (pt_cmpR op_ne (pv 1) (pv 2) (nomark _))
        (pss_cons (ps_set (i := 3) scMP.nd rfl (Or.inl rfl) (pe_hm ZP T.cl (hr.mono (by decide)) (pv 0) (pa_cons (pe_hm ZI T.cl (hr.mono (by decide)) (pv 0) (pa_cons (pv 5) pa_nil)) (pa_cons (pv 3) pa_nil))))
        (pss_cons (ps_set (i := 3) scMP.nd rfl (Or.inl rfl) (pe_hm ZP T.cl (hr.mono (by decide)) (pv 0) (pa_cons (pv 3) (pa_cons (pv 4) pa_nil))))
        (pss_cons (ps_if (pt_cmpR op_gt (pv 1) (pv 2) (nomark _)) (pss_one (ps_par3 (i := 1) (j := 2) (l := 3) rfl scMP.nd rfl rfl rfl (by decide) (by decide) (by decide) rfl rfl rfl (pa_cons (pv 2) (pa_cons (pv 1) (pa_cons (pe_hm ZI T.cl (hr.mono (by decide)) (pv 0) (pa_cons (pv 3) pa_nil)) pa_nil))) (by rfl))) pss_nil)
        (pss_one (ps_expr (pe_hm ZM T.cl hr (pv 0) (pa_cons (pv 1) (pa_cons (pv 2) (pa_cons (pv 3) pa_nil)))))))))
        pss_nil))))))), ?_⟩)
  · obtain ⟨o, E, M, P, nx, nl, nt, nm, b, ps, rfl, _⟩ := h; rfl
  · obtain ⟨o, E, M, P, nx, nl, nt, nm, b, ps, rfl, B0, g0, S0, hnx, hal, hnt, hb, hbl, q⟩ := h
    refine while_m (fun m σ H' => ∃ (E' : Gr) (M' : Mg) (P' : Pd) (nl' nt' nm' : Nat) (z1 z2 z3 z4 z5 : Option V), P'.length + 9 * alive M' nx = m ∧ σ = [some (.ref o.p), z1, z2, z3, z4, z5] ∧ Fr o H H' ∧ LFB C o H' E' M' P' nx nl' nt' nm' ∧ LFI E' M' P' nx ∧ LFS E' M' P' ps ∧
      nm' + alive M' nx = nx ∧ nt' ≤ nt ∧ nl' + 400 * m ≤ b) _ ⟨E, M, P, nl, nt, nm, none, none, none, none, none, rfl, rfl, Fr.refl, B0, g0, S0, hal, Nat.le_refl _, hb⟩ ?_
    rintro m σ H1 ⟨E1, M1, P1, nl1, nt1, nm1, z1, z2, z3, z4, z5, hm, rfl, fr1, B1, g1, S1, al1, t1, bud⟩
    obtain ⟨LS, kT, kM, LP, V1, e1, e2, e3, rT, rM, rP⟩ := id B1.ex
    have ale : alive M1 nx ≤ nx := alive_le
    refine ⟨_, rfl, o.p, C, o.dx, _, _, rfl, V1.p, T.cl, T.nq, lff_q, Nat.zero_le _, fun n nn => ?_⟩
    have s2 := same_new (o := .lst []) nn
    have V2 := V1.same s2
    refine rNe_nil (SqL.of V2.q) (rP.to (samT s2) (Nat.le_refl _)).plain (SqL.of upd_same) ⟨_, rfl, ?_⟩
    have B2 := B1.same s2
    have fr2 := fr1.trans (Fr.of s2)
    generalize upd H1 n (.lst []) = H2 at V2 B2 fr2 s2
    rcases List.eq_nil_or_concat P1 with hP | ⟨P0, p, hP⟩
    · subst hP
      have eL : LP = [] := List.length_eq_zero_iff.mp rP.1
      rw [eL]
      refine iteF ?_
      refine q _ E1 M1 nl1 nt1 nm1 fr2 B2 g1 S1 al1 t1 ?_
      have : ([] : Pd).length = 0 := rfl
      omega
    · rw [List.concat_eq_append] at hP
      subst hP
      have hlp : LP.isEmpty = false := by
        have := rP.1
        rw [List.length_append] at this
        cases LP with
        | nil => simp at this
        | cons _ _ => rfl
      rw [hlp]
      refine iteT ⟨_, fun _ _ h => h, ?_⟩
      have rP2 := rP.to (samT s2) (Nat.le_refl _)
      obtain ⟨bp, lab, p1, p2, p3, rP3⟩ := rP2.pop
      have hlen : (P0 ++ [p]).length = P0.length + 1 := by rw [List.length_append]; rfl
      rw [hlen] at hm
      have pnx := g1.pend p (List.mem_append_right _ (List.mem_singleton.mpr rfl))
      refine ⟨_, rfl, o.p, C, o.dx, _, _, rfl, V2.p, T.cl, T.nq, lff_q, .inl ⟨rfl, _, SqL.of V2.q⟩, o.q, LP, .ref bp, rfl, rfl, V2.q, p1, ?_⟩
      have V3 := V2.setQ LP.dropLast
      have fr3 := fr2.trans (fr_q (u := .lst LP.dropLast))
      have ts := V2.frt (fr_q (u := .lst LP.dropLast))
      have hbp := ts _ _ p2
      have B3 : LFB C o (upd H2 o.q (.lst LP.dropLast)) E1 M1 P0 nx nl1 nt1 nm1 := ⟨LS, kT, kM, _, V3, e1, e2, e3, (rT.to (samT s2) (Nat.le_refl _)).to ts (Nat.le_refl _), (rM.to (samT s2) (Nat.le_refl _)).to ts (Nat.le_refl _), rP3.to ts (Nat.le_refl _)⟩
      clear ts
      have g3 : LFI E1 M1 P0 nx := ⟨g1.einv, g1.live, g1.down, fun x hx => g1.pend x (List.mem_append_left _ hx), g1.one⟩
      refine ⟨bp, _, rfl, SqT.of hbp, rfl, _, _, rfl, _, _, rfl, _, _, rfl, rfl, ?_⟩
      generalize upd H2 o.q (.lst LP.dropLast) = H3 at V3 fr3 hbp B3
      -- first
      refine ⟨_, rfl, o.p, o.dx, _, rfl, V3.p, lff_no (by decide +kernel), _, rfl, ?_⟩
      refine ⟨o, E1, M1, P0, nx, nl1, nt1, nm1, p.1, rfl, B3, g3.down, by omega, by have : nx ≤ 150 := hnx; show nm1 ≤ 16000000; omega, by omega, fun H4 r4 fl nl4 M4 a l4 m4 f4 B4 la4 hr4 c4 => ?_⟩
      have g4 := c4.lfi g3
      refine ⟨r4, _, rfl, SqT.of hr4, rfl, _, _, rfl, _, _, rfl, rfl, ?_⟩
      obtain ⟨_, _, _, _, V4, _⟩ := id B4.ex
      -- second
      refine ⟨_, rfl, o.p, o.dx, _, rfl, V4.p, lff_no (by decide +kernel), _, rfl, ?_⟩
      refine ⟨o, E1, M4, P0, nx, nl4, nt1, nm1, p.2, rfl, B4, g4.down, by omega, by have : nx ≤ 150 := hnx; show nm1 ≤ 16000000; omega, by omega, fun H5 r5 sl nl5 M5 c l5 m5 f5 B5 la5 hr5 c5 => ?_⟩
      have g5 := c5.lfi g4
      refine ⟨r5, _, rfl, SqT.of hr5, rfl, _, _, rfl, _, _, rfl, rfl, ?_⟩
      obtain ⟨_, _, _, _, V5, _⟩ := id B5.ex
      have fr5 := (fr3.trans f4).trans f5
      have al5 : alive M5 nx = alive M1 nx := (alive_same c5.non).trans (alive_same c4.non)
      -- what is said of (a, c)
      have key : ∀ (D : Gr) (h : Nat → Nat), CompS D h E1 M1 (P0 ++ [p]) ↔ CompS D h E1 M5 P0 ∧ h a = h c := fun D h => by
        have q1 : CompS D h E1 M1 (P0 ++ [p]) ↔ CompS D h E1 M1 P0 ∧ h p.1 = h p.2 := CompS.pend (a := p.1) (b := p.2)
        rw [q1, c4.comp D h, c5.comp D h]
        constructor
        · rintro ⟨k, e⟩
          have r4' := (c5.resp h).mp k.2.1
          have w1 := c4.goes h ((c4.resp h).mp r4')
          have w2 := c5.goes h r4'
          exact ⟨k, by rw [← w1, ← w2, e]⟩
        · rintro ⟨k, e⟩
          have r4' := (c5.resp h).mp k.2.1
          have w1 := c4.goes h ((c4.resp h).mp r4')
          have w2 := c5.goes h r4'
          exact ⟨k, by rw [w1, w2, e]⟩
      have ma : M5 a = none := (c5.non a).mpr c4.root
      have mc : M5 c = none := c5.root
      have anx : a < nx := Nat.lt_of_le_of_lt c4.le pnx.1
      have cnx : c < nx := Nat.lt_of_le_of_lt c5.le pnx.2
      refine ⟨_, rfl, _, rfl, rfl, _, rfl, ?_⟩
      by_cases hac : a = c
      · refine iteFb (by rw [hac]; simp) ?_
        refine ⟨P0.length + 9 * alive M5 nx, by omega, E1, M5, P0, nl5, nt1, nm1, _, _, _, _, _, rfl, rfl, fr5, B5, g5, ?_, by omega, t1, by omega⟩
        exact S1.imp fun D h hD => by
          rw [key D h, hac]
          exact ⟨fun k => k.1, fun k => ⟨k, rfl⟩⟩
      · refine iteTb (by
          rw [decide_eq_false (fun z => hac (by have := V.int.inj z; omega))]
          rfl) ?_
        -- label
        refine ⟨_, rfl, o.p, o.dx, _, rfl, V5.p, lff_no (by decide +kernel), _, rfl, o.p, o.dx, _, rfl, V5.p, lff_no (by decide +kernel), _, rfl, ?_⟩
        refine ⟨o, _, _, P0, nx, nl5, _, _, sl, rfl, B5, by omega, la5, fun H6 v6 nl6 l6 m6 f6 B6 la6 => ?_⟩
        refine ⟨_, rfl, ?_⟩
        refine ⟨o, _, _, P0, nx, nl6, _, _, v6, lab, rfl, B6, by omega, la6, p3.mono (by omega), fun H7 v7 nl7 l7 m7 f7 B7 la7 => ?_⟩
        obtain ⟨_, _, _, _, V7, _⟩ := id B7.ex
        refine ⟨_, rfl, o.p, o.dx, _, rfl, V7.p, lff_no (by decide +kernel), _, rfl, _, rfl, ?_⟩
        refine ⟨o, _, _, P0, nx, nl7, _, _, v7, fl, rfl, B7, by omega, la7, la4.mono (by omega), fun H8 v8 nl8 l8 m8 f8 B8 la8 => ?_⟩
        obtain ⟨_, _, _, _, V8, _⟩ := id B8.ex
        have fr8 := ((fr5.trans f6).trans f7).trans f8
        have fin : ∀ (kept rem : Nat) (H9 : Hp) (v9 : V) (nl9 : Nat) (Q9 : VK) (z3 z4 z5 : Option V), kept < rem → ((kept = a ∧ rem = c) ∨ (kept = c ∧ rem = a)) → nl8 ≤ nl9 → nl9 ≤ nl8 + 1 → Fr o H8 H9 → LFB C o H9 E1 M5 P0 nx nl9 nt1 nm1 → Lab nl9 v9 →
            (∀ H', (∃ m', m' < m ∧ ∃ (E' : Gr) (M' : Mg) (P' : Pd) (nl' nt' nm' : Nat) (y1 y2 y3 y4 y5 : Option V), P'.length + 9 * alive M' nx = m' ∧ ([some (.ref o.p), some (.int (kept : Nat)), some (.int (rem : Nat)), z3, z4, z5] : Sl) = [some (.ref o.p), y1, y2, y3, y4, y5] ∧ Fr o H H' ∧ LFB C o H' E' M' P' nx nl' nt' nm' ∧ LFI E' M' P' nx ∧ LFS E' M' P' ps ∧
              nm' + alive M' nx = nx ∧ nt' ≤ nt ∧ nl' + 400 * m' ≤ b) → Q9 .non H') → spMerge C [.ref o.p, .int (kept : Nat), .int (rem : Nat), v9] H9 Q9 E0 := by
          intro kept rem H9 v9 nl9 Q9 z3 z4 z5 lt who l9 m9 f9 B9 la9 k9
          have hk : M5 kept = none := by rcases who with ⟨rfl, rfl⟩ | ⟨rfl, rfl⟩ <;> assumption
          have hrm : M5 rem = none := by rcases who with ⟨rfl, rfl⟩ | ⟨rfl, rfl⟩ <;> assumption
          have rnx : rem < nx := by rcases who with ⟨rfl, rfl⟩ | ⟨rfl, rfl⟩ <;> assumption
          have als := alive_setM (kept := kept) hrm rnx
          refine ⟨o, E1, M5, P0, nx, nl9, nt1, nm1, kept, rem, v9, rfl, B9, g5, lt, rnx, hk, hrm, by omega, by omega, by have : nx ≤ 150 := hnx; show nm1 + 1 ≤ 16000000; omega, by omega, la9, fun H' E' P' nl' nt' a1 a2 a3 a4 a5 a6 a7 a8 => ?_⟩
          refine k9 _ ⟨P'.length + 9 * alive (setM M5 rem kept) nx, by omega, E', _, P', nl', nt', nm1 + 1, _, _, _, _, _, rfl, rfl, (fr8.trans f9).trans a5, a6, a7, ?_, by omega, by omega, by omega⟩
          refine S1.imp fun D h hD => ?_
          rw [a8 D h hD, CompS.set hrm, key D h]
          rcases who with ⟨rfl, rfl⟩ | ⟨rfl, rfl⟩
          · exact ⟨fun k => ⟨k.1, k.2.symm⟩, fun k => ⟨k.1, k.2.symm⟩⟩
          · exact Iff.rfl
        refine ⟨_, rfl, _, rfl, _, _, rfl, rfl, _, rfl, iteD (fun z => ?_) fun z => ?_⟩
        · refine ⟨_, rfl, _, rfl, _, rfl, o.p, o.dx, _, rfl, V8.p, lff_no (by decide +kernel), _, rfl, ?_⟩
          refine ⟨o, _, _, P0, nx, nl8, _, _, v8, rfl, B8, by omega, la8, fun H9 v9 nl9 l9 m9 f9 B9 la9 => ?_⟩
          obtain ⟨_, _, _, _, V9, _⟩ := id B9.ex
          refine ⟨_, _, _, rfl, ?_⟩
          refine ⟨_, rfl, o.p, o.dx, _, rfl, V9.p, lff_no (by decide +kernel), _, rfl, _, rfl, _, rfl, ?_⟩
          dsimp only [tNil, List.append_nil]
          refine fin c a H9 v9 nl9 _ (some v9) (some fl) (some sl) (by omega) (.inr ⟨rfl, rfl⟩) l9 m9 f9 B9 la9 ?_
          exact fun H' h => h
        · refine ⟨_, rfl, o.p, o.dx, _, rfl, V8.p, lff_no (by decide +kernel), _, rfl, _, rfl, _, rfl, ?_⟩
          dsimp only [tNil, List.append_nil]
          refine fin a c H8 v8 nl8 _ (some v8) (some fl) (some sl) (by omega) (.inl ⟨rfl, rfl⟩) (Nat.le_refl _) (Nat.le_succ _) Fr.refl B8 la8 ?_
          exact fun H' h => h
end
end K73
set_option Elab.async false
set_option linter.all false
set_option maxRecDepth 100000
set_option maxHeartbeats 2000000
/-! K73LM7: a generator is added. -/
namespace K73
open PySem PySem.Spec PyProof.Rows L2
theorem LFI.more {E : Gr} {M : Mg} {P : Pd} {nx nx' : Nat} (g : LFI E M P nx) (h : nx ≤ nx') : LFI E M P nx' :=
  ⟨g.einv, fun u c v e => ⟨⟨(g.live u c v e).1.1, Nat.lt_of_lt_of_le (g.live u c v e).1.2 h⟩, (g.live u c v e).2.1, Nat.lt_of_lt_of_le (g.live u c v e).2.2 h⟩, fun r k e => ⟨(g.down r k e).1, Nat.lt_of_lt_of_le (g.down r k e).2 h⟩, fun p hp => ⟨Nat.lt_of_lt_of_le (g.pend p hp).1 h, Nat.lt_of_lt_of_le (g.pend p hp).2 h⟩, Nat.le_trans g.one h⟩
theorem drop_cons {w : List Nat} {i c : Nat} (hc : w[i]? = some c) : w.drop i = c :: w.drop (i + 1) := by
  have hi := (List.getElem?_eq_some_iff.mp hc)
  rw [List.drop_eq_getElem_cons hi.1, hi.2]
/-- the end of a walk -/
theorem far_end {E : Gr} {M : Mg} {P : Pd} {nx : Nat} {ps : List (List Nat)} {w : List Nat} (g : LFI E M P nx) : ∀ (n i u : Nat), w.length = i + n → u < nx → M u = none → LFP E M P ps w i u →
    let r := far E u (w.drop i)
    i + r.2 ≤ w.length ∧ r.1 < nx ∧ M r.1 = none ∧ LFP E M P ps w (i + r.2) r.1
  | 0, i, u, hl, hu, mu, L => by
    have e : w.drop i = [] := List.drop_eq_nil_of_le (by omega)
    rw [e]
    exact ⟨by show i + 0 ≤ _; omega, hu, mu, L⟩
  | n + 1, i, u, hl, hu, mu, L => by
    have hi : i < w.length := by omega
    have hc : w[i]? = some w[i] := List.getElem?_eq_getElem hi
    cases eE : E u w[i] with
    | none =>
      rw [far_stop hc eE]
      exact ⟨by show i + 0 ≤ _; omega, hu, mu, L⟩
    | some v =>
      rw [far_step hc eE]
      have lv := (g.live _ _ _ eE).2
      have q := far_end g n (i + 1) v (by omega) lv.2 lv.1 (L.along hc eE)
      have e : ∀ k, i + (k + 1) = i + 1 + k := fun k => by omega
      show i + ((far E v (w.drop (i + 1))).2 + 1) ≤ _ ∧ _
      rw [e]
      exact q
theorem cut_mid (w : List Nat) (p : Nat) (hp : p < w.length) : cutS (tx w) (some (p : Nat)) (some (-1)) = tx ((w.drop p).take (w.length - 1 - p)) := by
  unfold cutS
  rw [tx_cps, tx_len]
  have e1 : HT.sIx w.length w.length (some (-1)) = w.length - 1 := by
    unfold HT.sIx
    first | rfl | (simp; omega) | (split <;> omega)
  have e2 : HT.sIx w.length 0 (some (p : Nat)) = p := by
    rw [HT.sIx_nat]
    omega
  rw [e1, e2]
  rfl
theorem mid_get {w : List Nat} {p i c : Nat} (h : ((w.drop p).take (w.length - 1 - p))[i]? = some c) : w[p + i]? = some c ∧ p + i + 1 < w.length := by
  have hi := (List.getElem?_eq_some_iff.mp h).1
  rw [List.length_take, List.length_drop] at hi
  rw [List.getElem?_take, if_pos (by omega), List.getElem?_drop] at h
  exact ⟨h, by omega⟩
def spAddG (C : Addr) : Sp := fun vs H Q _ => ∃ (o : LFA) (E : Gr) (M : Mg) (nx nl nt nm b j : Nat) (ps : List (List Nat)) (w : List Nat), vs = [.ref o.p, .int (j : Nat), .str (tx w)] ∧ LFB C o H E M [] nx nl nt nm ∧ LFI E M [] nx ∧ LFS E M [] ps ∧ Steps w ∧ w.length ≤ 8 ∧ nx + 8 ≤ 150 ∧
  nm + alive M nx = nx ∧ nt + 16 ≤ lim ∧ nl + 400 * (9 * alive M nx) ≤ b ∧ b + 30000 ≤ lim ∧
  ∀ H' E' M' nx' nl' nt' nm', Fr o H H' → LFB C o H' E' M' [] nx' nl' nt' nm' → LFI E' M' [] nx' → LFS E' M' [] (ps ++ [w]) → nx' ≤ nx + 8 → nm' + alive M' nx' = nx' → nt' ≤ nt + 16 → nl' + 400 * (9 * alive M' nx') ≤ b + 30000 → Q .non H'
section
variable {P : Program} {w : World} {K : PySem.W.Frag} {mg : Str → Option Value} {base : Heap} {f C : Addr} {fd : FuncData}
def nsAddG : List Str := ["self", "index", "path", "node", "label", "position", "step"]
theorem scAddG : FnScope nsAddG ["self", "index", "path"] (defScope (sLF 4)) := ⟨rfl, rfl, rfl, by decide +kernel, rfl, by decide +kernel, by decide +kernel⟩
theorem ok_addG (F : MtP K "LabelledFolding.add_generator" "add_generator" (sLF 4) f fd) (B : Bi mg) (T : LFT K C) (ZI : HasM P w K mg base 1 C "inverse_line" ["self", "line"] (spInvL C)) (ZP : HasM P w K mg base 1 C "product_line" ["self", "first", "second"] (spProL C))
    (ZG : HasM P w K mg base 1 C "generator_line" ["self", "index"] (spGenL C)) (ZW : HasM P w K mg base 2 C "walk" ["self", "path"] (spWalk C)) (ZA : HasM P w K mg base 2 C "add_edge" psAddE (spAddE C)) (ZM : HasM P w K mg base 4 C "merge_pending" ["self"] (spMP C)) :
    FnOk P w K mg base CX0 5 f fd ["self", "index", "path"] (spAddG C) := by
  refine F.ok scAddG (fun vs H Q E h => ?_) (fun cdv A outer s H vs Q E hr h => ⟨_, PSs.nox (pss_cons (ps_asg (pe_hm ZW T.cl (hr.mono (by decide)) (pv 0) (pa_cons (pv 2) pa_nil)) (pg_tup rfl (pgs_cons (pg_name (i := 3) scAddG.nd rfl (Or.inl rfl)) (pgs_cons (pg_name (i := 4) scAddG.nd rfl (Or.inl rfl)) (pgs_cons (pg_name (i := 5) scAddG.nd rfl (Or.inl rfl)) pgs_nil)))))
    (pss_cons (ps_if (pt_cmpR op_lt (pv 5) (pe_callB call_len_str rfl B.len PySem.boot_len (pa_cons (pv 2) pa_nil)) (nomark _))
      (pss_cons (ps_set (i := 4) scAddG.nd rfl (Or.inl rfl) (pe_hm ZI T.cl (hr.mono (by decide)) (pv 0) (pa_cons (pv 4) pa_nil)))
      (pss_cons (ps_for PassesOwn.never rfl (pi_str (pe_slice sl_str (pv 2) (po_some (pv 5)) (po_some (pe_un un_neg pe_int)))) (pg_name (i := 6) scAddG.nd rfl (Or.inl rfl))
        (pss_cons (ps_expr (pe_hm ZA T.cl (hr.mono (by decide)) (pv 0) (pa_cons (pv 3) (pa_cons (pv 6) (pa_cons (pe_fld (pv 0) rfl) (pa_cons (pv 4) pa_nil))))))
        (pss_cons (ps_par (i := 3) (j := 4) rfl scAddG.nd rfl rfl (by decide) rfl rfl (pa_cons (pe_fld (pv 0) rfl) (pa_cons pe_non pa_nil)) (by rfl))
        (pss_one (ps_fldaug (pv 0) pe_int in_add)))))
      (pss_one (ps_expr (pe_hm ZA T.cl (hr.mono (by decide)) (pv 0) (pa_cons (pv 3) (pa_cons (pe_ix ix_str (pv 2) (pe_un un_neg pe_int) (fun _ _ => rfl)) (pa_cons pe_int (pa_cons (pe_hm ZP T.cl (hr.mono (by decide)) (pv 0) (pa_cons (pv 4) (pa_cons (pe_hm ZG T.cl (hr.mono (by decide)) (pv 0) (pa_cons (pv 1) pa_nil)) pa_nil))) pa_nil)))))))))
      (pss_one (ps_if (pt_cmpR op_ne (pv 3) pe_int (nomark _))
        (pss_one (ps_expr (pe_bm PySem.F.plainAttrs_list PySem.F.slot_list_append PySem.F.type_list_append mt_append (pe_fld (pv 0) rfl) (pa_cons (pe_tup (pa_cons pe_int (pa_cons (pv 3) (pa_cons (pe_hm ZP T.cl (hr.mono (by decide)) (pv 0) (pa_cons (pe_hm ZI T.cl (hr.mono (by decide)) (pv 0) (pa_cons (pv 4) pa_nil)) (pa_cons (pe_hm ZG T.cl (hr.mono (by decide)) (pv 0) (pa_cons (pv 1) pa_nil)) pa_nil))) pa_nil)))) pa_nil)))) pss_nil)))
    (pss_one (ps_expr (pe_hm0 ZM T.cl hr (pv 0)))))), ?_⟩)
  · obtain ⟨o, E, M, nx, nl, nt, nm, b, j, ps, w, rfl, _⟩ := h; rfl
  · obtain ⟨o, E, M, nx, nl, nt, nm, b, j, ps, w, rfl, B0, g0, S0, hw, hwl, hnx, hal, hnt, hb, hbl, q⟩ := h
    obtain ⟨_, _, _, _, V0, _⟩ := id B0.ex
    have fe := far_end (w := w) g0 w.length 0 0 (by omega) g0.one g0.root (LFP.start S0 w)
    rw [List.drop_zero] at fe
    have ale : alive M nx ≤ nx := alive_le
    refine ⟨_, rfl, o.p, o.dx, _, rfl, V0.p, lff_no (by decide +kernel), _, rfl, ?_⟩
    refine ⟨o, E, M, [], nx, nl, nt, nm, w, rfl, B0, (by show _ ≤ 16000000; have : b + 30000 ≤ 16000000 := hbl; omega), by omega, fun H1 r1 v1 nl1 l1 m1 f1 B1 la1 hr1 => ?_⟩
    generalize far E 0 w = fw at fe hr1
    obtain ⟨u, p⟩ := fw
    obtain ⟨fp, fu, fm, fL⟩ := fe
    rw [Nat.zero_add] at fp fL
    refine ⟨r1, _, rfl, SqT.of hr1, rfl, _, _, rfl, _, _, rfl, _, _, rfl, rfl, ?_⟩
    obtain ⟨_, _, _, _, V1, _⟩ := id B1.ex
    have hlim : b + 30000 ≤ 16000000 := hbl
    -- the end: merge_pending
    have fin : ∀ (H2 : Hp) (E2 : Gr) (P2 : Pd) (nx2 nl2 nt2 : Nat), Fr o H H2 → LFB C o H2 E2 M P2 nx2 nl2 nt2 nm → LFI E2 M P2 nx2 → LFS E2 M P2 (ps ++ [w]) → nx ≤ nx2 → nx2 ≤ nx + 7 → nl2 ≤ nl + 40 → nt2 ≤ nt + 16 → P2.length ≤ 8 → nm + alive M nx2 = nx2 →
        spMP C [.ref o.p] H2 (fun v H3 => Q .non H3) E0 := fun H2 E2 P2 nx2 nl2 nt2 a1 a2 a3 a4 a5 a6 a7 a8 a9 a10 => by
      refine ⟨o, E2, M, P2, nx2, nl2, nt2, nm, b + 30000, ps ++ [w], rfl, a2, a3, a4, by omega, a10, by omega, by omega, hbl, fun H3 E3 M3 nl3 nt3 nm3 c1 c2 c3 c4 c5 c6 c7 => ?_⟩
      exact q _ E3 M3 nx2 nl3 nt3 nm3 (a1.trans c1) c2 c3 c4 (by omega) c5 (by omega) c7
    refine ⟨_, rfl, _, rfl, _, rfl, (by rw [tx_len]; exact Nat.le_trans hwl (by decide)), _, _, rfl, rfl, ?_⟩
    rw [tx_len]
    refine ⟨_, rfl, iteD (fun hlt => ?_) fun hge => ?_⟩
    · have hlt : p < w.length := by omega
      -- label = self.inverse_line(label)
      refine ⟨_, rfl, o.p, o.dx, _, rfl, V1.p, lff_no (by decide +kernel), _, rfl, ?_⟩
      refine ⟨o, E, M, [], nx, nl1, nt, nm, v1, rfl, B1, (by show _ ≤ 16000000; omega), la1, fun H2 v2 nl2 l2 m2 f2 B2 la2 => ?_⟩
      refine ⟨_, rfl, _, rfl, _, rfl, 1, rfl, _, rfl, _, rfl, (by rw [tx_len]; exact Nat.le_trans hwl (by decide)), _, rfl, ?_⟩
      rw [cut_mid w p hlt]
      refine for_it walk_str (fun i σ H' => ∃ (E' : Gr) (P' : Pd) (nl' nt' src : Nat) (lab : V) (z : Option V), σ = [some (.ref o.p), some (.int (j : Nat)), some (.str (tx w)), some (.int (src : Nat)), some lab, some (.int (p : Nat)), z] ∧ Fr o H H' ∧ LFB C o H' E' M P' (nx + i) nl' nt' nm ∧
          LFI E' M P' (nx + i) ∧ LFP E' M P' ps w (p + i) src ∧ src < nx + i ∧ M src = none ∧ nl' ≤ nl + 9 + 2 * i ∧ nt' ≤ nt + 2 * i ∧ P'.length ≤ i ∧ nm + alive M (nx + i) = nx + i ∧ Lab nl' lab)
        ⟨E, [], nl2, nt, u, v2, none, rfl, f1.trans f2, B2, g0, fL, fu, fm, by omega, by omega, Nat.le_refl _, hal, la2⟩ (fun _ _ _ _ _ => trivial) (fun i x σ H3 H4 hi pv y => ?_) (fun σ H3 pv => ?_)
      · obtain ⟨E3, P3, nl3, nt3, src, lab, z, rfl, f3, B3, g3, L3, s3, ms, b1, b2, b3, b4, la3⟩ := pv
        obtain ⟨rfl, c, hc, rfl⟩ := y
        rw [tx_get] at hc
        obtain ⟨hc, hci⟩ := mid_get hc
        have hcs : isStep c := hw c (List.mem_of_getElem? hc)
        obtain ⟨_, _, _, _, V3, _⟩ := id B3.ex
        have mn : M (nx + i) = none := g3.fresh (Nat.le_refl _)
        refine ⟨_, rfl, o.p, o.dx, _, rfl, V3.p, lff_no (by decide +kernel), _, rfl, _, rfl, _, rfl, o.p, C, o.dx, _, _, rfl, V3.p, T.cl, T.nn, lff_n, _, rfl, ?_⟩
        refine ⟨o, E3, M, P3, nx + i, nl3, nt3, nm, src, c, nx + i, lab, rfl, B3, hcs, (by show _ ≤ 16000000; omega), (by omega), (by show _ ≤ 16000000; omega), la3, fun H5 E5 P5 nl5 nt5 l5 m5 t5 f5 B5 ed => ?_⟩
        have A := ed.adds (g3.more (Nat.le_succ _)) hcs (Nat.lt_succ_of_lt s3) (Nat.lt_succ_self _) ms mn
        have len := ed.len
        obtain ⟨LS, kT, kM, LP, V5, e1, e2, e3, rT, rM, rP⟩ := id B5.ex
        refine ⟨_, rfl, o.p, C, o.dx, _, _, rfl, V5.p, T.cl, T.nn, lff_n, _, _, rfl, ?_⟩
        refine ⟨_, rfl, o.p, C, o.dx, _, _, rfl, V5.p, T.cl, T.nn, lff_n, _, _, rfl, rfl, o.dx, _, V5.p, lff_len, ?_⟩
        have V6 := V5.setN (nx + i + 1)
        have f6 : Fr o H5 (upd H5 o.p (.ins C o.dx (lff o (nx + i + 1)))) := fr_p
        have ts := V5.frt f6
        have ep : putF "next_node" (V.int (((nx + i : Nat) : Int) + 1)) (lff o (nx + i)) = lff o (nx + i + 1) := lff_put (m := nx + i + 1)
        rw [ep]
        refine ⟨E5, P5, nl5, nt5, nx + i, .non, _, rfl, (f3.trans f5).trans f6, ⟨LS, kT, kM, LP, V6, e1, e2, e3, rT.to ts (Nat.le_refl _), rM.to ts (Nat.le_refl _), rP.to ts (Nat.le_refl _)⟩, A.lfi, L3.out g3 hc s3 A, Nat.lt_succ_self _, mn, by omega, by omega, by omega, ?_, .inl rfl⟩
        have := alive_succ mn
        show nm + alive M (nx + i + 1) = nx + i + 1
        omega
      · obtain ⟨E3, P3, nl3, nt3, src, lab, z, rfl, f3, B3, g3, L3, s3, ms, b1, b2, b3, b4, la3⟩ := pv
        have hn : (tx ((w.drop p).take (w.length - 1 - p))).cps.size = w.length - 1 - p := by
          rw [tx_size, List.length_take, List.length_drop]; omega
        rw [hn] at B3 g3 L3 s3 b1 b2 b3 b4
        have hpi : p + (w.length - 1 - p) = w.length - 1 := by omega
        rw [hpi] at L3
        have hl1 : w.length - 1 < w.length := by omega
        have hc : w[w.length - 1]? = some w[w.length - 1] := List.getElem?_eq_getElem hl1
        have hcs : isStep w[w.length - 1] := hw _ (List.mem_of_getElem? hc)
        have hlast : atI (tx w).cps.toList (-1) = some w[w.length - 1] := by
          rw [tx_cps]
          refine atI_end ?_
          rw [List.getLast?_eq_getElem?]
          exact hc
        obtain ⟨_, _, _, _, V3, _⟩ := id B3.ex
        refine ⟨_, rfl, o.p, o.dx, _, rfl, V3.p, lff_no (by decide +kernel), _, rfl, _, rfl, 1, rfl, _, _, _, rfl, rfl, (by rw [tx_len]; exact Nat.le_trans hwl (by decide)), hlast, ?_⟩
        refine ⟨_, rfl, o.p, o.dx, _, rfl, V3.p, lff_no (by decide +kernel), _, rfl, _, rfl, o.p, o.dx, _, rfl, V3.p, lff_no (by decide +kernel), _, rfl, ?_⟩
        refine ⟨o, E3, M, P3, _, nl3, nt3, nm, j, rfl, B3, (by show _ ≤ 16000000; omega), fun H5 f5 B5 => ?_⟩
        refine ⟨o, E3, M, P3, _, nl3 + 1, nt3, nm, lab, .int (nl3 : Nat), rfl, B5, (by show _ ≤ 16000000; omega), la3.mono (Nat.le_succ _), .at (Nat.lt_succ_self _), fun H6 v6 nl6 l6 m6 f6 B6 la6 => ?_⟩
        refine ⟨o, E3, M, P3, _, nl6, nt3, nm, src, w[w.length - 1], 0, v6, rfl, B6, hcs, (by show _ ≤ 16000000; omega), (by omega), (by show _ ≤ 16000000; omega), la6, fun H7 E7 P7 nl7 nt7 l7 m7 t7 f7 B7 ed => ?_⟩
        have A := ed.adds g3 hcs s3 g3.one ms g3.root
        have len := ed.len
        obtain ⟨_, _, _, _, V7, _⟩ := id B7.ex
        refine ⟨_, rfl, o.p, o.dx, _, rfl, V7.p, lff_no (by decide +kernel), ?_⟩
        exact fin H7 E7 P7 _ nl7 nt7 (((f3.trans f5).trans f6).trans f7) B7 A.lfi (L3.close hc (by omega) A) (by omega) (by omega) (by omega) (by omega) (by omega) b4
    · have hp : p = w.length := by omega
      subst hp
      refine ⟨_, rfl, rfl, _, rfl, ?_⟩
      by_cases hu : u = 0
      · refine iteFb (by rw [hu]; rfl) ?_
        subst hu
        refine ⟨_, rfl, o.p, o.dx, _, rfl, V1.p, lff_no (by decide +kernel), ?_⟩
        exact fin H1 E [] nx nl1 nt f1 B1 g0 fL.wholeR (Nat.le_refl _) (by omega) (by omega) (by omega) (Nat.zero_le _) hal
      · refine iteTb (by
          rw [decide_eq_false (fun z => hu (by have := V.int.inj z; omega))]
          rfl) ?_
        refine ⟨_, rfl, o.p, C, o.dx, _, _, rfl, V1.p, T.cl, T.nq, lff_q, .inl ⟨rfl, _, SqL.of V1.q⟩, ?_⟩
        refine ⟨_, rfl, _, rfl, o.p, o.dx, _, rfl, V1.p, lff_no (by decide +kernel), _, rfl, o.p, o.dx, _, rfl, V1.p, lff_no (by decide +kernel), _, rfl, ?_⟩
        refine ⟨o, E, M, [], nx, nl1, nt, nm, v1, rfl, B1, (by show _ ≤ 16000000; omega), la1, fun H2 v2 nl2 l2 m2 f2 B2 la2 => ?_⟩
        obtain ⟨_, _, _, _, V2, _⟩ := id B2.ex
        refine ⟨_, rfl, o.p, o.dx, _, rfl, V2.p, lff_no (by decide +kernel), _, rfl, ?_⟩
        refine ⟨o, E, M, [], nx, nl2, nt, nm, j, rfl, B2, (by show _ ≤ 16000000; omega), fun H3 f3 B3 => ?_⟩
        refine ⟨o, E, M, [], nx, nl2 + 1, nt, nm, v2, .int (nl2 : Nat), rfl, B3, (by show _ ≤ 16000000; omega), la2.mono (Nat.le_succ _), .at (Nat.lt_succ_self _), fun H4 v4 nl4 l4 m4 f4 B4 la4 => ?_⟩
        refine ⟨(by show 3 ≤ sizeLine; decide), fun b5 nb5 => ?_⟩
        have s5 := same_new (o := .tup [.int ((0 : Nat) : Int), .int (u : Nat), v4]) nb5
        obtain ⟨LS5, kT5, kM5, LP5, V5, a1, a2, a3, rT5, rM5, rP5⟩ := (B4.same s5).ex
        refine ⟨o.q, LP5, _, rfl, rfl, V5.q, (by rw [rP5.1]; decide), ?_⟩
        have V6 := V5.setQ (LP5 ++ [.ref b5])
        have ts := V5.frt (fr_q (u := .lst (LP5 ++ [.ref b5])))
        have rP6 := (rP5.push upd_same la4).to ts (Nat.le_refl _)
        refine ⟨_, rfl, o.p, o.dx, _, rfl, V6.p, lff_no (by decide +kernel), ?_⟩
        refine fin _ E [(0, u)] nx nl4 nt (((f1.trans f2).trans (f3.trans f4)).trans ((Fr.of s5).trans fr_q)) ⟨LS5, kT5, kM5, _, V6, a1, a2, a3, rT5.to ts (Nat.le_refl _), rM5.to ts (Nat.le_refl _), rP6⟩ ⟨g0.einv, g0.live, g0.down, fun x hx => ?_, g0.one⟩ fL.whole (Nat.le_refl _) (by omega) (by omega) (by omega) (by show 1 ≤ 8; decide) hal
        rw [List.mem_singleton.mp hx]
        exact ⟨g0.one, fu⟩
end
end K73
set_option Elab.async false
set_option linter.all false
set_option maxRecDepth 100000
set_option maxHeartbeats 2000000
/-! K73LM8: a folding is made; a derivation is asked for. -/
namespace K73
open PySem PySem.Spec PyProof.Rows L2
def words (ws : List (List Nat)) : List V := ws.map fun w => V.str (tx w)
def spLInit (K : PySem.W.Frag) (C : Addr) : Sp := fun vs H Q _ => ∃ (p dx a : Addr) (ws : List (List Nat)), vs = [.ref p, .ref a] ∧ H p = some (.ins C dx []) ∧ SqL K H a (words ws) ∧ p ≠ a ∧ (∀ w ∈ ws, Steps w ∧ w.length ≤ 8) ∧ ws.length ≤ 13 ∧
  ∀ H' (o : LFA) E M nx nl nt nm, o.p = p → (∀ b u, H b = some u → b ≠ p → H' b = some u) → LFB C o H' E M [] nx nl nt nm → LFI E M [] nx → LFS E M [] ws → nl ≤ 400000 → (H o.l = none ∧ H o.t = none ∧ H o.m = none ∧ H o.q = none) → Q .non H'
theorem far_run {E : Gr} : ∀ {w : List Nat} {u : Nat}, run E u w = some 0 ↔ (far E u w).1 = 0 ∧ (far E u w).2 = w.length
  | [], u => by
    show some u = some 0 ↔ u = 0 ∧ 0 = 0
    exact ⟨fun h => ⟨Option.some.inj h, rfl⟩, fun h => by rw [h.1]⟩
  | c :: w, u => by
    show (match E u c with
      | none => none
      | some v => run E v w) = some 0 ↔ (match E u c with
      | none => (u, 0)
      | some v => ((far E v w).1, (far E v w).2 + 1)).1 = 0 ∧ (match E u c with
      | none => (u, 0)
      | some v => ((far E v w).1, (far E v w).2 + 1)).2 = w.length + 1
    cases E u c with
    | none => exact ⟨fun h => (by cases h), fun h => (by have := h.2; simp at this)⟩
    | some v =>
      have ih := far_run (E := E) (w := w) (u := v)
      show run E v w = some 0 ↔ (far E v w).1 = 0 ∧ (far E v w).2 + 1 = w.length + 1
      rw [ih]
      exact ⟨fun h => ⟨h.1, by rw [h.2]⟩, fun h => ⟨h.1, by omega⟩⟩
theorem putF_len (f : Str) (v : V) : ∀ fs : List (Str × V), (putF f v fs).length ≤ fs.length + 1
  | [] => Nat.le_refl _
  | (g, x) :: r => by
    show (if g = f then (g, v) :: r else (g, x) :: putF f v r).length ≤ _
    have ih := putF_len f v r
    split
    · simp
    · simpa using ih
theorem init_fs (l t m n q : V) : putF "pending" q (putF "next_node" n (putF "merged" m (putF "targets_of" t (putF "lines" l [])))) = ([("lines", l), ("targets_of", t), ("merged", m), ("next_node", n), ("pending", q)] : List (Str × V)) := by
  have e1 : putF ("lines" : Str) l [] = ([("lines", l)] : List (Str × V)) := rfl
  have e2 : putF ("targets_of" : Str) t [("lines", l)] = ([("lines", l), ("targets_of", t)] : List (Str × V)) := by
    rw [putF_ne (by decide +kernel)]; rfl
  have e3 : putF ("merged" : Str) m [("lines", l), ("targets_of", t)] = ([("lines", l), ("targets_of", t), ("merged", m)] : List (Str × V)) := by
    rw [putF_ne (by decide +kernel), putF_ne (by decide +kernel)]; rfl
  have e4 : putF ("next_node" : Str) n [("lines", l), ("targets_of", t), ("merged", m)] = ([("lines", l), ("targets_of", t), ("merged", m), ("next_node", n)] : List (Str × V)) := by
    rw [putF_ne (by decide +kernel), putF_ne (by decide +kernel), putF_ne (by decide +kernel)]; rfl
  rw [e1, e2, e3, e4, putF_ne (by decide +kernel), putF_ne (by decide +kernel), putF_ne (by decide +kernel), putF_ne (by decide +kernel)]
  rfl
section
variable {P : Program} {w : World} {K : PySem.W.Frag} {mg : Str → Option Value} {base : Heap} {f C : Addr} {fd : FuncData}
def nsLInit : List Str := ["self", "paths", "index", "path"]
theorem scLInit : FnScope nsLInit ["self", "paths"] (defScope (sLF 0)) := ⟨rfl, rfl, rfl, by decide +kernel, rfl, by decide +kernel, by decide +kernel⟩
theorem ok_LInit (F : MtP K "LabelledFolding.__init__" "__init__" (sLF 0) f fd) (B : Bi mg) (T : LFT K C) (ZA : HasM P w K mg base 5 C "add_generator" ["self", "index", "path"] (spAddG C)) : FnOk P w K mg base CX0 6 f fd ["self", "paths"] (spLInit K C) := by
  refine F.ok scLInit (fun vs H Q E h => ?_) (fun cdv A outer s H vs Q E hr h => ⟨_, PSs.nox (pss_cons (ps_fld (pv 0) (pe_lst pa_nil) rfl) (pss_cons (ps_fld (pv 0) pe_dnewT rfl) (pss_cons (ps_fld (pv 0) pe_dnewK rfl) (pss_cons (ps_fld (pv 0) pe_int rfl) (pss_cons (ps_fld (pv 0) (pe_lst pa_nil) rfl)
    (pss_one (ps_for PassesOwn.never rfl (pi_enum (by rfl) B.enumerate (pa_cons (pv 1) pa_nil)) (pg_tup rfl (pgs_cons (pg_name (i := 2) scLInit.nd rfl (Or.inl rfl)) (pgs_cons (pg_name (i := 3) scLInit.nd rfl (Or.inl rfl)) pgs_nil)))
      (pss_one (ps_expr (pe_hm ZA T.cl hr (pv 0) (pa_cons (pv 2) (pa_cons (pv 3) pa_nil)))))))))))), ?_⟩)
  · obtain ⟨p, dx, a, ws, rfl, _⟩ := h; rfl
  · obtain ⟨p, dx, a, ws, rfl, hp, ha, npa, hws, hlen, q⟩ := h
    -- lines
    refine ⟨Nat.zero_le _, fun l nl => ⟨_, rfl, p, C, dx, _, rfl, same_new nl _ _ hp, T.cl, T.nl, (by show 0 < 1000; decide), ?_⟩⟩
    have s1 := same_new (o := .lst []) nl
    have hl1 := upd_same (H := H) (a := l) (o := .lst [])
    have lp : l ≠ p := fun z => by rw [z, hp] at nl; cases nl
    have k1 : ∀ b u, H b = some u → b ≠ p → upd (upd H l (.lst [])) p (.ins C dx (putF "lines" (.ref l) [])) b = some u := fun b u h n => by rw [upd_ne n]; exact s1 _ _ h
    have hl2 : upd (upd H l (.lst [])) p (.ins C dx (putF "lines" (.ref l) [])) l = some (.lst []) := by rw [upd_ne lp]; exact hl1
    have hp2 := upd_same (H := upd H l (.lst [])) (a := p) (o := .ins C dx (putF "lines" (.ref l) []))
    generalize upd (upd H l (.lst [])) p (.ins C dx (putF "lines" (.ref l) [])) = H2 at k1 hl2 hp2
    have fr0 : ∀ {H' : Hp} {x : Addr}, (∀ b u, H b = some u → b ≠ p → H' b = some u) → H' x = none → x ≠ p → H x = none := fun {H' x} k h n => by
      cases e : H x with
      | none => rfl
      | some u => rw [k x u e n] at h; cases h
    -- targets_of
    refine fun t nt => ⟨_, rfl, p, C, dx, _, rfl, same_new nt _ _ hp2, T.cl, T.nt, Nat.lt_of_le_of_lt (putF_len _ _ _) (by show 1 < 1000; decide), ?_⟩
    have tp : t ≠ p := fun z => by rw [z, hp2] at nt; cases nt
    have nt0 := fr0 k1 nt tp
    have s3 := same_new (o := .dT []) nt
    have k3 : ∀ b u, H b = some u → b ≠ p → upd (upd H2 t (.dT [])) p (.ins C dx (putF "targets_of" (.ref t) (putF "lines" (.ref l) []))) b = some u := fun b u h n => by rw [upd_ne n]; exact s3 _ _ (k1 _ _ h n)
    have hl3 : upd (upd H2 t (.dT [])) p (.ins C dx (putF "targets_of" (.ref t) (putF "lines" (.ref l) []))) l = some (.lst []) := by rw [upd_ne lp]; exact s3 _ _ hl2
    have ht3 : upd (upd H2 t (.dT [])) p (.ins C dx (putF "targets_of" (.ref t) (putF "lines" (.ref l) []))) t = some (.dT []) := by rw [upd_ne tp]; exact upd_same
    have hp3 := upd_same (H := upd H2 t (.dT [])) (a := p) (o := .ins C dx (putF "targets_of" (.ref t) (putF "lines" (.ref l) [])))
    generalize upd (upd H2 t (.dT [])) p (.ins C dx (putF "targets_of" (.ref t) (putF "lines" (.ref l) []))) = H3 at k3 hl3 ht3 hp3
    -- merged
    refine fun m nm => ⟨_, rfl, p, C, dx, _, rfl, same_new nm _ _ hp3, T.cl, T.nm, Nat.lt_of_le_of_lt (Nat.le_trans (putF_len _ _ _) (Nat.succ_le_succ (putF_len _ _ _))) (by show 2 < 1000; decide), ?_⟩
    have mp : m ≠ p := fun z => by rw [z, hp3] at nm; cases nm
    have nm0 := fr0 k3 nm mp
    have s4 := same_new (o := .dK []) nm
    generalize hf3 : putF "merged" (.ref m) (putF "targets_of" (.ref t) (putF "lines" (.ref l) [])) = fs3
    have lf3 : fs3.length ≤ 3 := by rw [← hf3]; exact Nat.le_trans (putF_len _ _ _) (Nat.succ_le_succ (Nat.le_trans (putF_len _ _ _) (Nat.succ_le_succ (putF_len _ _ _))))
    have k4 : ∀ b u, H b = some u → b ≠ p → upd (upd H3 m (.dK [])) p (.ins C dx fs3) b = some u := fun b u h n => by rw [upd_ne n]; exact s4 _ _ (k3 _ _ h n)
    have hl4 : upd (upd H3 m (.dK [])) p (.ins C dx fs3) l = some (.lst []) := by rw [upd_ne lp]; exact s4 _ _ hl3
    have ht4 : upd (upd H3 m (.dK [])) p (.ins C dx fs3) t = some (.dT []) := by rw [upd_ne tp]; exact s4 _ _ ht3
    have hm4 : upd (upd H3 m (.dK [])) p (.ins C dx fs3) m = some (.dK []) := by rw [upd_ne mp]; exact upd_same
    have hp4 := upd_same (H := upd H3 m (.dK [])) (a := p) (o := .ins C dx fs3)
    generalize upd (upd H3 m (.dK [])) p (.ins C dx fs3) = H4 at k4 hl4 ht4 hm4 hp4
    -- next_node
    refine ⟨_, rfl, p, C, dx, _, rfl, hp4, T.cl, T.nn, Nat.lt_of_le_of_lt lf3 (by decide), ?_⟩
    generalize hf5 : putF "next_node" (V.int 1) fs3 = fs5
    have lf5 : fs5.length ≤ 4 := by rw [← hf5]; exact Nat.le_trans (putF_len _ _ _) (Nat.succ_le_succ lf3)
    have k5 : ∀ b u, H b = some u → b ≠ p → upd H4 p (.ins C dx fs5) b = some u := fun b u h n => by rw [upd_ne n]; exact k4 _ _ h n
    have hl5 : upd H4 p (.ins C dx fs5) l = some (.lst []) := by rw [upd_ne lp]; exact hl4
    have ht5 : upd H4 p (.ins C dx fs5) t = some (.dT []) := by rw [upd_ne tp]; exact ht4
    have hm5 : upd H4 p (.ins C dx fs5) m = some (.dK []) := by rw [upd_ne mp]; exact hm4
    have hp5 := upd_same (H := H4) (a := p) (o := .ins C dx fs5)
    generalize upd H4 p (.ins C dx fs5) = H5 at k5 hl5 ht5 hm5 hp5
    -- pending
    refine ⟨Nat.zero_le _, fun r nr => ⟨_, rfl, p, C, dx, _, rfl, same_new nr _ _ hp5, T.cl, T.nq, Nat.lt_of_le_of_lt lf5 (by decide), ?_⟩⟩
    have rp : r ≠ p := fun z => by rw [z, hp5] at nr; cases nr
    have nr0 := fr0 k5 nr rp
    have s6 := same_new (o := .lst []) nr
    have lr : l ≠ r := ne_of_none hl5 nr
    have hf6 : putF "pending" (.ref r) fs5 = lff ⟨p, dx, l, t, m, r⟩ 1 := by rw [← hf5, ← hf3]; exact init_fs _ _ _ _ _
    rw [hf6]
    have k6 : ∀ b u, H b = some u → b ≠ p → upd (upd H5 r (.lst [])) p (.ins C dx (lff ⟨p, dx, l, t, m, r⟩ 1)) b = some u := fun b u h n => by rw [upd_ne n]; exact s6 _ _ (k5 _ _ h n)
    have V0 : LFV C ⟨p, dx, l, t, m, r⟩ (upd (upd H5 r (.lst [])) p (.ins C dx (lff ⟨p, dx, l, t, m, r⟩ 1))) [] [] [] [] 1 :=
      ⟨upd_same, by show upd _ p _ l = _; rw [upd_ne lp]; exact s6 _ _ hl5, by show upd _ p _ t = _; rw [upd_ne tp]; exact s6 _ _ ht5, by show upd _ p _ m = _; rw [upd_ne mp]; exact s6 _ _ hm5, by show upd _ p _ r = _; rw [upd_ne rp]; exact upd_same, lr, fun i v e => by cases e⟩
    have B0 : LFB C ⟨p, dx, l, t, m, r⟩ (upd (upd H5 r (.lst [])) p (.ins C dx (lff ⟨p, dx, l, t, m, r⟩ 1))) (fun _ _ => none) (fun _ => none) [] 1 0 0 0 :=
      ⟨[], [], [], [], V0, rfl, rfl, rfl, fun u c => ⟨fun _ e => (by cases e), fun _ => rfl⟩, fun u => ⟨fun _ e => (by cases e), fun _ => rfl⟩, rfl, fun i p e => by cases e⟩
    generalize upd (upd H5 r (.lst [])) p (.ins C dx (lff ⟨p, dx, l, t, m, r⟩ 1)) = H6 at k6 V0 B0
    have keepA : ∀ {H' : Hp}, (∀ b u, H b = some u → b ≠ p → H' b = some u) → SqL K H' a (words ws) := fun {H'} k => by
      rcases ha with (h | ⟨ob, h⟩) | h
      · exact .inl (.inl (k _ _ h npa.symm))
      · exact .inl (.inr ⟨ob, k _ _ h npa.symm⟩)
      · exact .inr h
    refine ⟨_, rfl, a, _, rfl, keepA k6, for_it walk_enum (fun i σ H' => ∃ (E' : Gr) (M' : Mg) (nx' nl' nt' nm' : Nat) (z1 z2 : Option V), σ = [some (.ref p), some (.ref a), z1, z2] ∧ (∀ b u, H b = some u → b ≠ p → H' b = some u) ∧ LFB C ⟨p, dx, l, t, m, r⟩ H' E' M' [] nx' nl' nt' nm' ∧ LFI E' M' [] nx' ∧ LFS E' M' [] (ws.take i) ∧
        nx' ≤ 1 + 8 * i ∧ nm' + alive M' nx' = nx' ∧ nt' ≤ 16 * i ∧ nl' + 400 * (9 * alive M' nx') ≤ 3600 + 30000 * i)
      ⟨_, _, 1, 0, 0, 0, none, none, rfl, k6, B0, LFI.nil, LFS.nil, Nat.le_refl _, rfl, Nat.le_refl _, (by decide)⟩ (fun i σ H' _ ⟨_, _, _, _, _, _, _, _, _, k, _⟩ => keepA k) (fun i x σ H7 H8 hi pv y => ?_) (fun σ H7 pv => ?_)⟩
    · obtain ⟨E7, M7, nx7, nl7, nt7, nm7, z1, z2, rfl, k7, B7, g7, S7, b1, b2, b3, b4⟩ := pv
      obtain ⟨T1, x1, x2, rfl, nT, rfl, e1, e2⟩ := y
      cases e1
      have hi' : i < ws.length := by
        have : i < (words ws).length := hi
        rw [words, List.length_map] at this
        exact this
      have ew : ws[i]? = some ws[i] := List.getElem?_eq_getElem hi'
      have e2' : (words ws)[i]? = some x2 := e2
      rw [words, List.getElem?_map, ew] at e2'
      cases e2'
      have mem := hws ws[i] (List.mem_of_getElem? ew)
      have s8 := same_new (o := .tup [.int (i : Nat), .str (tx ws[i])]) nT
      refine ⟨T1, _, rfl, SqT.of upd_same, rfl, _, _, rfl, _, _, rfl, rfl, ?_⟩
      have B8 := B7.same s8
      obtain ⟨_, _, _, _, V8, _⟩ := id B8.ex
      refine ⟨_, rfl, p, dx, _, rfl, V8.p, lff_no (by decide +kernel), _, rfl, _, rfl, ?_⟩
      refine ⟨⟨p, dx, l, t, m, r⟩, E7, M7, nx7, nl7, nt7, nm7, 3600 + 30000 * i, i, ws.take i, ws[i], rfl, B8, g7, S7, mem.1, mem.2, by omega, b2, (by show _ ≤ 16000000; omega), b4, (by show _ ≤ 16000000; omega), fun H9 E9 M9 nx9 nl9 nt9 nm9 c1 c2 c3 c4 c5 c6 c7 c8 => ?_⟩
      refine ⟨E9, M9, nx9, nl9, nt9, nm9, _, _, rfl, fun b u h n => ?_, c2, c3, ?_, by omega, c6, by omega, by omega⟩
      · exact c1 b u (s8 _ _ (k7 b u h n)) n (ne_of_none h nl) (ne_of_none h nt0) (ne_of_none h nm0) (ne_of_none h nr0)
      · rw [show ws.take (i + 1) = ws.take i ++ [ws[i]] by rw [List.take_add_one, ew]; rfl]
        exact c4
    · obtain ⟨E7, M7, nx7, nl7, nt7, nm7, z1, z2, rfl, k7, B7, g7, S7, b1, b2, b3, b4⟩ := pv
      have hn : (words ws).length = ws.length := by rw [words, List.length_map]
      rw [hn] at b4 S7
      rw [List.take_length] at S7
      exact q _ ⟨p, dx, l, t, m, r⟩ E7 M7 nx7 nl7 nt7 nm7 rfl k7 B7 g7 S7 (by omega) ⟨nl, nt0, nm0, nr0⟩
end
end K73
set_option Elab.async false
set_option linter.all false
set_option maxRecDepth 100000
set_option maxHeartbeats 2000000
/-! K73RulesC: a, *b = a tuple. -/
namespace K73
open PySem PySem.Spec PyProof.Rows L2
/-- a tuple's walk from its second item on -/
theorem walk_rest {prog : Program} {w : World} {A : Around} (hh : A.handled = none) (I ax : Addr) (hne : ax ≠ I) (items : Array Value) (h1 : 1 ≤ items.size) :
    WalksS prog w A I [I, ax] [I] (fun a b => b = a) (items.size - 1) (fun i v => items[i + 1]? = some v) (fun i s => s.heap.IsTupleIter I ax (i + 1) ∧ s.heap.IsTuple ax items) := by
  have W := (Walks.tuple (prog := prog) (w := w) hh I ax hne items).toS
  refine ⟨W.sub, W.grefl, W.gtrans, fun i => W.frame (i + 1), fun i s Q E hi st hQ => W.item (i + 1) s Q E (by omega) st hQ, fun s Q E st hQ => W.done s Q E ?_ hQ, fun i => W.self (i + 1)⟩
  have e : items.size - 1 + 1 = items.size := by omega
  rw [e] at st
  exact st
section
variable {prog : Program} {w : World} {A : Around} {E : Value → Shared → Prop} {s : Shared}
theorem unpack_rest {t : Addr} {x : Value} {rest : List Value} {Q : List Value → Shared → Prop} (hh : A.handled = none) (ht : IsTup s.heap t (x :: rest).toArray) (hz : rest.length ≤ sizeLine)
    (hQ : ∀ (h' : Heap) (tk : Nat), (∀ b o, s.heap.get? b = some o → h'.get? b = some o) →
      Q [x, .ref h'.objs.size] { s with heap := h'.push { cls := .type "list", data := .seq rest.toArray }, toks := tk }) : wpAny (model prog w) A (unpackItems (.ref t) 2 (some 1)) Q E s := by
  have hlt : t ≠ s.heap.objs.size := by obtain ⟨o, ho, _⟩ := ht; exact Nat.ne_of_lt (Heap.lt_size ho)
  unfold unpackItems
  refine wpAny_bind ?_
  unfold notIterableAtAll
  refine wpAny_bind (wpAny_specialOf ht.typeIs slot_tuple_iter.lookup (wpAny_pure ?_))
  simp only [Bool.false_eq_true, if_false]
  refine wpAny_bind (wpAny_holding (iter_tuple ht ?_))
  refine wpAny_bind (wpAny_holding (draw_tuple hlt 1 0 _ _ ⟨_, Heap.get?_push_size _ rfl, rfl, rfl⟩ (ht.push _) (by simp) fun h1 hit1 hs1 => ?_))
  have ht1 : IsTup h1 t (x :: rest).toArray := (ht.push _).extBut hs1.extBut hlt
  have e1 : List.take 1 (List.drop 0 ((x :: rest).toArray).toList) = [x] := rfl
  rw [e1, if_neg (by simp)]
  have it_lt : s.heap.objs.size < h1.objs.size := by obtain ⟨o, ho, _⟩ := hit1; exact Heap.lt_size ho
  have t_lt : t < h1.objs.size := by obtain ⟨o, ho, _⟩ := ht1; exact Heap.lt_size ho
  have kp1 : ∀ b o, s.heap.get? b = some o → h1.get? b = some o := fun b o e => hs1.extBut b o (Nat.ne_of_lt (Heap.lt_size e)) (Heap.get?_push_of_some _ e)
  have W : WalksS prog w A.in1 s.heap.objs.size [s.heap.objs.size, t] [s.heap.objs.size] (fun a b => b = a) rest.length (fun i v => (x :: rest).toArray[i + 1]? = some v) (fun i s1 => s1.heap.IsTupleIter s.heap.objs.size t (i + 1) ∧ s1.heap.IsTuple t (x :: rest).toArray) :=
    walk_rest (A := A.in1) hh s.heap.objs.size t hlt (x :: rest).toArray (by simp)
  refine wpAny_bind (wpAny_holding (wpAny_collect_iter (T := "tuple_iterator") (.inr (.inr (.inr rfl))) W (fun i s st => st.1.typeIs) ⟨hit1, ht1⟩ (fun b hb => ?_) (by simp) (fun s2 acc hm hi => ?_) hz))
  · rcases (by simpa using hb : b = s.heap.objs.size ∨ b = t) with z | z
    · rw [z]; exact it_lt
    · rw [z]; exact t_lt
  · have el : acc.toList = rest := by
      refine List.ext_getElem? fun i => ?_
      have hsz : acc.size = rest.length := by have := hi.1; simpa using this
      by_cases h : i < rest.length
      · have ha : acc[i]? = some acc[i] := Array.getElem?_eq_getElem (by omega)
        have q := hi.2 i _ ha
        have q2 : (x :: rest)[i + 1]? = some acc[i] := by simpa using q
        rw [List.getElem?_cons_succ] at q2
        rw [q2, Array.getElem?_toList]
        exact ha
      · rw [List.getElem?_eq_none (by simpa [hsz] using h), List.getElem?_eq_none (by omega)]
    have kp2 : ∀ b o, s.heap.get? b = some o → s2.heap.get? b = some o := fun b o e => hm.heap b o (fun z => by
      have : b = s.heap.objs.size := by simpa using z
      exact absurd (Heap.lt_size e) (by rw [this]; exact Nat.lt_irrefl _)) (kp1 b o e)
    rw [el]
    rw [if_neg (by simp)]
    refine wpAny_bind (wpAny_newList ?_ (by simpa using hz))
    refine wpAny_pure ?_
    have e2 : rest.length - (2 - 1 - 1) = rest.length := by omega
    rw [e2, List.take_length, List.drop_length, List.append_nil]
    have e3 := Moved.eq_with hm
    rw [e3]
    exact hQ s2.heap s2.toks kp2
/-- a, *b = v, v a tuple of one item or more -/
def gStar (K : PySem.W.Frag) (t : TGs) : TG := fun v σ H Q => ∃ a x xs, v = .ref a ∧ SqT K H a (x :: xs) ∧ ∀ L, H L = none → t [x, .ref L] σ (upd H L (.lst xs)) Q
theorem pg_star {X : Cx} {e1 e2 : Expr} {k : Nat} {p pos : Pos} {t : TGs} (hc : X.calm = true) (h : PGs X [e1, e2] t)
    (hn : (assignEach [e1, .Starred e2 p] X.env).length = 2 := by rfl) (hst : (assignEach [e1, .Starred e2 p] X.env).findIdx? (·.1) = some 1 := by rfl)
    (hm : (assignEach [e1, .Starred e2 p] X.env).map (·.2) = (assignEach [e1, e2] X.env).map (·.2) := by rfl) : PG X (.Tuple [e1, .Starred e2 p] k pos) (gStar X.K t) := by
  refine ⟨fun pins s σ H v u Q I r hw => ?_⟩
  obtain ⟨a, x, xs, e1, hq, hw⟩ := hw
  subst e1
  cases r
  obtain ⟨its, rv, ht, hz⟩ := I.tuple hq
  cases rv with
  | @cons _ _ y ys ry rys =>
    rw [assign_Tuple]
    refine wpAny_bind (wpAny_standAt ?_)
    unfold unpack
    rw [hn, hst, hm]
    have hz' : xs.length ≤ sizeLine := Nat.le_trans (Nat.le_succ _) hz
    refine wpAny_bind (wpAny_holding (unpack_rest (I.ok.hd hc) ht (by rw [← rys.length]; exact hz') fun h' tk kp => ?_))
    have I1 : Inv X pins σ H { s with heap := h', toks := tk } := I.kept kp
    have kp2 : ∀ b u, h'.get? b = some u → (h'.push { cls := .type "list", data := .seq ys.toArray }).get? b = some u := fun b u e => Heap.get?_push_of_some _ e
    have I2 : Inv X pins σ (upd H h'.objs.size (.lst xs)) { s with heap := h'.push { cls := .type "list", data := .seq ys.toArray }, toks := tk } :=
      I1.laid kp2 (Nat.le_refl _) ⟨hz', ys, _, rys, Heap.get?_push_size _ rfl⟩
    exact h.run pins _ σ _ _ _ Q I2 (.cons ry (.cons (show L2.RelV (.ref h'.objs.size) (.ref h'.objs.size) from rfl) .nil)) (hw _ (I1.hok.fresh (Nat.le_refl _)))
end
end K73
set_option Elab.async false
set_option linter.all false
set_option maxRecDepth 100000
set_option maxHeartbeats 2000000
/-! K73RulesD: dict comprehensions that change nothing. -/
namespace K73
open PySem PySem.Spec PyProof.Rows L2
section
variable {J : It} {n : Nat} {G : Hp → Prop} {Y : Nat → Hp → V → Hp → Prop}
/-- a dict comprehension over a walk, by what holds at each turn -/
theorem dc_walk (w : Walk J n G Y) {g : TG} {tt : TT} {tk tv : TE} {vs : List Nat} {σ : Sl} {H1 : Hp} {D : Addr} {Qd : Hp → Prop} (Pv : Nat → Hp → Prop) (h0 : Pv 0 (upd H1 D (.dK []))) (hG : ∀ i H, i ≤ n → Pv i H → G H)
    (hs : ∀ i x H H', i < n → Pv i H → Y i H x H' → g x (wipe σ vs) H' fun σ2 H2 => wipe σ2 vs = wipe σ vs ∧ tt σ2 H2 fun b H3 =>
      if b = true then tk σ2 H3 fun y H4 => tv σ2 H4 fun z H5 => ∃ kvs k, y = kV k ∧ H5 D = some (.dK kvs) ∧ kvs.length < sizeLine ∧ Pv (i + 1) (upd H5 D (.dK (putK kvs k z))) else Pv (i + 1) H3) (hd : ∀ H, Pv n H → Qd H) :
    ∃ W : Nat → Nat → Hp → Prop, (∃ m, W 0 m (upd H1 D (.dK []))) ∧ ∀ i m H, W i m H →
      (J.stop i H ∧ Qd H) ∨ (J.go i H ∧ ∃ Nx : Hp → Prop, (∀ H', Nx H' → ∃ m', m' < m ∧ W (i + 1) m' H') ∧ ∀ x H', J.yld i H x H' → g x (wipe σ vs) H' fun σ2 H2 => wipe σ2 vs = wipe σ vs ∧ tt σ2 H2 fun b H3 =>
        if b = true then tk σ2 H3 fun y H4 => tv σ2 H4 fun z H5 => ∃ kvs k, y = kV k ∧ H5 D = some (.dK kvs) ∧ kvs.length < sizeLine ∧ Nx (upd H5 D (.dK (putK kvs k z))) else Nx H3) := by
  refine ⟨fun i m H => i + m = n ∧ Pv i H, ⟨n, by omega, h0⟩, fun i m H => ?_⟩
  rintro ⟨e, p⟩
  have gH := hG i H (by omega) p
  cases m with
  | zero =>
    have : i = n := by omega
    subst this
    exact .inl ⟨w.stops H gH, hd H p⟩
  | succ m =>
    have hi : i < n := by omega
    exact .inr ⟨w.goes i H hi gH, Pv (i + 1), fun H' p' => ⟨m, Nat.lt_succ_self m, by omega, p'⟩, fun x H' y => hs i x H H' hi p (w.yields i H x H' hi gH y)⟩
def dAcc (k : Nat → Bool) (f : Nat → L2.Key) (z : Nat → V) (i : Nat) : List (L2.Key × V) := ((List.range i).filter k).foldl (fun acc j => putK acc (f j) (z j)) []
theorem dAcc_succ_t {k : Nat → Bool} {f : Nat → L2.Key} {z : Nat → V} {i : Nat} (h : k i = true) : dAcc k f z (i + 1) = putK (dAcc k f z i) (f i) (z i) := by
  unfold dAcc
  have e : List.filter k [i] = [i] := by simp [h]
  rw [List.range_succ, List.filter_append, e, List.foldl_append]
  rfl
theorem dAcc_succ_f {k : Nat → Bool} {f : Nat → L2.Key} {z : Nat → V} {i : Nat} (h : k i = false) : dAcc k f z (i + 1) = dAcc k f z i := by
  unfold dAcc
  have e : List.filter k [i] = [] := by simp [h]
  rw [List.range_succ, List.filter_append, e, List.append_nil]
theorem dAcc_len {k : Nat → Bool} {f : Nat → L2.Key} {z : Nat → V} : ∀ i, (dAcc k f z i).length ≤ i
  | 0 => Nat.le_refl _
  | i + 1 => by
    have ih := dAcc_len (k := k) (f := f) (z := z) i
    cases h : k i with
    | true =>
      rw [dAcc_succ_t h]
      exact Nat.le_trans (length_putK _ _ _) (Nat.succ_le_succ ih)
    | false =>
      rw [dAcc_succ_f h]
      omega
/-- {f(x): z(x) for x in .. if t(x)}, nothing is changed -/
theorem dc_filt (w : Walk J n G Y) {g : TG} {tt : TT} {tk tv : TE} {vs : List Nat} {σ : Sl} {H1 : Hp} {D : Addr} {Qd : Hp → Prop} (k : Nat → Bool) (f : Nat → L2.Key) (z : Nat → V) (hz : n ≤ sizeLine) (hG : ∀ H, Same H1 H → G H) (hD : H1 D = none)
    (hs : ∀ i x H H' (Q : V → V → Hp → Prop) (N : Hp → Prop), i < n → Same H1 H → Y i H x H' → (k i = true → ∀ H4, Same H H4 → Q (kV (f i)) (z i) H4) → (k i = false → ∀ H4, Same H H4 → N H4) →
      g x (wipe σ vs) H' fun σ2 H2 => wipe σ2 vs = wipe σ vs ∧ tt σ2 H2 fun b H3 => if b = true then tk σ2 H3 fun y H4 => tv σ2 H4 fun u H5 => Q y u H5 else N H3)
    (hd : ∀ H, Same H1 H → H D = some (.dK (dAcc k f z n)) → Qd H) :
    ∃ W : Nat → Nat → Hp → Prop, (∃ m, W 0 m (upd H1 D (.dK []))) ∧ ∀ i m H, W i m H →
      (J.stop i H ∧ Qd H) ∨ (J.go i H ∧ ∃ Nx : Hp → Prop, (∀ H', Nx H' → ∃ m', m' < m ∧ W (i + 1) m' H') ∧ ∀ x H', J.yld i H x H' → g x (wipe σ vs) H' fun σ2 H2 => wipe σ2 vs = wipe σ vs ∧ tt σ2 H2 fun b H3 =>
        if b = true then tk σ2 H3 fun y H4 => tv σ2 H4 fun u H5 => ∃ kvs k, y = kV k ∧ H5 D = some (.dK kvs) ∧ kvs.length < sizeLine ∧ Nx (upd H5 D (.dK (putK kvs k u))) else Nx H3) := by
  refine dc_walk w (fun i H => Same H1 H ∧ H D = some (.dK (dAcc k f z i))) ⟨same_new hD, upd_same⟩ (fun i H _ p => hG H p.1) (fun i x H H' hi p y => ?_) (fun H p => hd H p.1 p.2)
  refine hs i x H H' (fun y u H5 => ∃ kvs k', y = kV k' ∧ H5 D = some (.dK kvs) ∧ kvs.length < sizeLine ∧ (Same H1 (upd H5 D (.dK (putK kvs k' u))) ∧ upd H5 D (.dK (putK kvs k' u)) D = some (.dK (dAcc k f z (i + 1))))) _ hi p.1 y (fun hk H4 s4 => ⟨_, f i, rfl, s4 _ _ p.2, Nat.lt_of_le_of_lt (dAcc_len i) (Nat.lt_of_lt_of_le hi hz), same_upd (p.1.trans s4) hD, ?_⟩) (fun hk H4 s4 => ⟨p.1.trans s4, ?_⟩)
  · rw [upd_same, dAcc_succ_t hk]
  · rw [s4 _ _ p.2, dAcc_succ_f hk]
end
/-- keys that differ: the pairs as they come -/
theorem dAcc_map {k : Nat → Bool} {f : Nat → L2.Key} {z : Nat → V} (hf : ∀ i j, f i = f j → i = j) : ∀ i, dAcc k f z i = ((List.range i).filter k).map fun j => (f j, z j)
  | 0 => rfl
  | i + 1 => by
    have ih := dAcc_map (k := k) (z := z) hf i
    cases h : k i with
    | true =>
      rw [dAcc_succ_t h, ih, List.range_succ, List.filter_append, List.map_append]
      have e : List.filter k [i] = [i] := by simp [h]
      rw [e, putK_new]
      · rfl
      · cases q : valV (((List.range i).filter k).map fun j => (f j, z j)) (f i) with
        | none => rfl
        | some v =>
          have m := valV_in q
          rw [List.map_map] at m
          obtain ⟨j, hj, e2⟩ := List.mem_map.mp m
          have := hf j i e2
          have hj2 := List.mem_range.mp (List.mem_filter.mp hj).1
          omega
    | false =>
      rw [dAcc_succ_f h, ih, List.range_succ, List.filter_append]
      have e : List.filter k [i] = [] := by simp [h]
      rw [e, List.append_nil]
end K73
set_option Elab.async false
set_option linter.all false
set_option maxRecDepth 100000
set_option maxHeartbeats 2000000
/-! K73Req: the lines that a line needs. -/
namespace K73
open PySem PySem.Spec PyProof.Rows L2
theorem LineC.form {i : Nat} {xs : List V} (h : LineC i xs) : ∃ (wd : Str) (idx : List Nat), xs = .str wd :: idx.map (fun j => V.int (j : Nat)) ∧ idx ≠ [] ∧ idx.length ≤ 2 ∧ (wd = "generator" ∨ (wd ≠ "generator" ∧ ∀ j ∈ idx, j < i)) := by
  cases h with
  | gen j => exact ⟨_, [j], rfl, by simp, by simp, .inl rfl⟩
  | @inv a h => exact ⟨_, [a], rfl, by simp, by simp, .inr ⟨by decide +kernel, fun j hj => by rw [List.mem_singleton.mp hj]; exact h⟩⟩
  | @prod a b ha hb =>
    refine ⟨_, [a, b], rfl, by simp, by simp, .inr ⟨by decide +kernel, fun j hj => ?_⟩⟩
    rcases List.mem_cons.mp hj with e | hj
    · rw [e]; exact ha
    · rw [List.mem_singleton.mp hj]; exact hb
def nk (n : Nat) : L2.Key := Sum.inl (n : Int)
theorem nk_inj {a b : Nat} (h : nk a = nk b) : a = b := by
  have : ((a : Nat) : Int) = b := Sum.inl.inj h
  omega
/-- the keys of kvs are the numbers R -/
def IsReq (kvs : List (L2.Key × V)) (R : List Nat) : Prop := kvs.map (·.1) = R.map nk
theorem IsReq.some {kvs : List (L2.Key × V)} {R : List Nat} (h : IsReq kvs R) {n : Nat} : (valV kvs (nk n)).isSome = decide (n ∈ R) := by
  cases e : valV kvs (nk n) with
  | none =>
    have q := valV_not e
    rw [h] at q
    symm
    exact decide_eq_false fun z => q (List.mem_map.mpr ⟨n, z, rfl⟩)
  | some v =>
    have q := valV_in e
    rw [h] at q
    obtain ⟨m, hm, e2⟩ := List.mem_map.mp q
    symm
    exact decide_eq_true (by rw [← nk_inj e2]; exact hm)
theorem IsReq.put {kvs : List (L2.Key × V)} {R : List Nat} (h : IsReq kvs R) (n : Nat) (v : V) : IsReq (putK kvs (nk n) v) (if n ∈ R then R else R ++ [n]) := by
  have q := h.some (n := n)
  by_cases hn : n ∈ R
  · rw [if_pos hn]
    rw [decide_eq_true hn] at q
    unfold putK IsReq
    rw [valV_any, q, if_pos rfl, List.map_map, ← h]
    refine List.map_congr_left fun p _ => ?_
    show (if p.1 = nk n then (p.1, v) else p).1 = p.1
    split <;> rfl
  · rw [if_neg hn]
    rw [decide_eq_false hn] at q
    have e : valV kvs (nk n) = none := by
      cases e : valV kvs (nk n) with
      | none => rfl
      | some v => rw [e] at q; cases q
    rw [putK_new v e]
    unfold IsReq
    rw [List.map_append, List.map_append, h]
    rfl
theorem IsReq.merge : ∀ {more : List (L2.Key × V)} {R2 : List Nat} {kvs : List (L2.Key × V)} {R : List Nat}, IsReq kvs R → IsReq more R2 → ∃ R', IsReq (mergeK kvs more) R' ∧ (∀ n, n ∈ R' ↔ n ∈ R ∨ n ∈ R2) ∧ R'.length ≤ R.length + R2.length
  | [], R2, kvs, R, h, h2 => by
    have e : R2 = [] := List.map_eq_nil_iff.mp h2.symm
    subst e
    exact ⟨R, h, fun n => ⟨.inl, fun z => z.elim id fun z => nomatch z⟩, Nat.le_refl _⟩
  | p :: more, [], kvs, R, h, h2 => by cases h2
  | p :: more, m :: R2, kvs, R, h, h2 => by
    unfold IsReq at h2
    rw [List.map_cons, List.map_cons] at h2
    obtain ⟨e1, e2⟩ := List.cons.inj h2
    obtain ⟨R', k1, k2, k3⟩ := IsReq.merge (more := more) (R2 := R2) (h.put m p.2) e2
    refine ⟨R', ?_, fun n => ?_, ?_⟩
    · have e3 : mergeK kvs (p :: more) = mergeK (putK kvs p.1 p.2) more := rfl
      rw [e3, e1]
      exact k1
    · rw [k2 n]
      by_cases hm : m ∈ R
      · rw [if_pos hm]
        constructor
        · rintro (z | z)
          · exact .inl z
          · exact .inr (List.mem_cons_of_mem _ z)
        · rintro (z | z)
          · exact .inl z
          · rcases List.mem_cons.mp z with z | z
            · exact .inl (by rw [z]; exact hm)
            · exact .inr z
      · rw [if_neg hm, List.mem_append, List.mem_singleton, List.mem_cons]
        exact ⟨fun z => by rcases z with (z | z) | z <;> simp [z], fun z => by rcases z with z | z | z <;> simp [z]⟩
    · have : (if m ∈ R then R else R ++ [m]).length ≤ R.length + 1 := by split <;> simp
      rw [List.length_cons]
      omega
/-- {index: True for index in idx} -/
theorem req_comp (idx : List Nat) : ∀ i, i ≤ idx.length → ∃ R2, IsReq (dAcc (fun _ => true) (fun i => nk ((idx[i]?).getD 0)) (fun _ => V.bl true) i) R2 ∧ (∀ n, n ∈ R2 ↔ n ∈ idx.take i) ∧ R2.length ≤ i
  | 0, _ => ⟨[], rfl, fun n => by simp, Nat.le_refl _⟩
  | i + 1, hi => by
    obtain ⟨R2, h1, h2, h3⟩ := req_comp idx i (by omega)
    have e : idx[i]? = some idx[i] := List.getElem?_eq_getElem (by omega)
    rw [dAcc_succ_t rfl, e]
    refine ⟨_, h1.put idx[i] _, fun n => ?_, ?_⟩
    · rw [List.take_add_one, e]
      show n ∈ _ ↔ n ∈ idx.take i ++ [idx[i]]
      rw [List.mem_append, List.mem_singleton, ← h2 n]
      by_cases hm : idx[i] ∈ R2
      · rw [if_pos hm]
        exact ⟨.inl, fun z => z.elim id fun z => by rw [z]; exact hm⟩
      · rw [if_neg hm, List.mem_append, List.mem_singleton]
    · split
      · omega
      · rw [List.length_append]; show R2.length + 1 ≤ _; omega
def spReq (K : PySem.W.Frag) : Sp := fun vs H Q _ => ∃ (l : Addr) (LS : List V) (lab : V), vs = [.ref l, lab] ∧ H l = some (.lst LS) ∧ (∀ i v, LS[i]? = some v → LineOk H i v) ∧ LS.length ≤ 500000 ∧ Lab LS.length lab ∧ ∀ H' r, Same H H' → Q (.ref r) H'
/-- what a line needs is there -/
def Needs (H : Hp) (LS : List V) (R : List Nat) (n : Nat) : Prop := ∀ (b : Addr) (wd : Str) (idx : List Nat), LS[n]? = some (.ref b) → H b = some (.tup (.str wd :: idx.map fun (j : Nat) => V.int (j : Nat))) → wd ≠ "generator" → ∀ j ∈ idx, j ∈ R
theorem idx_inj {a b : List Nat} (h : a.map (fun (j : Nat) => V.int (j : Nat)) = b.map fun (j : Nat) => V.int (j : Nat)) : a = b := by
  refine List.map_inj_right (f := fun (j : Nat) => V.int (j : Nat)) (fun x y e => ?_) |>.mp h
  have : ((x : Nat) : Int) = y := V.int.inj e
  omega
section
variable {P : Program} {w : World} {K : PySem.W.Frag} {mg : Str → Option Value} {base : Heap} {f : Addr} {fd : FuncData}
abbrev sReq : Stmt := topS 39
def nsReq : List Str := ["lines", "last", "required", "number", "word", "indexes", "index", "numbers", "result"]
theorem scReq : FnScope nsReq ["lines", "last"] (defScope sReq) := ⟨rfl, rfl, rfl, by decide +kernel, rfl, by decide +kernel, by decide +kernel⟩
theorem ok_req (F : FnP K "required_lines" sReq f fd) (B : Bi mg) : FnOk P w K mg base CX0 1 f fd ["lines", "last"] (spReq K) := by
  refine F.ok scReq (fun vs H Q E h => ?_) (fun cdv A outer s H vs Q E hr h => ⟨_, PSs.nox (pss_cons (ps_if (pt_cmpR op_isN (pv 1) pe_non (nomark _)) (pss_one (ps_ret (pe_lst pa_nil))) pss_nil)
    (pss_cons (ps_set (i := 2) scReq.nd rfl (Or.inl rfl) (pe_disp (pps_cons (pv 1) pe_bl pps_nil) (by rfl) (by rfl) (fun z => by cases z) (by decide)))
    (pss_cons (ps_for PassesOwn.never rfl (pi_range3 (by rfl) B.range (pa_cons (pv 1) (pa_cons (pe_un un_neg pe_int) (pa_cons (pe_un un_neg pe_int) pa_nil)))) (pg_name (i := 3) scReq.nd rfl (Or.inl rfl))
      (pss_cons (ps_asg (pe_ix ix_list (pv 0) (pv 3) (fun _ _ => rfl)) (pg_star rfl (pgs_cons (pg_name (i := 4) scReq.nd rfl (Or.inr rfl)) (pgs_cons (pg_name (i := 5) scReq.nd rfl (Or.inl rfl)) pgs_nil))))
      (pss_one (ps_if (PW.pt (pw_and (pt_cmp (pc_din (hu_of hr) (pv 3) (pv 2))) (pw_and1 (pt_cmpR op_ne (pv 4) pe_str (nomark _)))))
        (pss_one (ps_expr (pe_bm PySem.F.plainAttrs_dict PySem.F.slot_dict_update PySem.F.type_dict_update mt_updD (pv 2) (pa_cons (pe_dc (own := [("index", 6)]) (g := gName 6) (tt := tYes) rfl scReq.nd (pi_list (pv 5)) (blkOk_by (N := nsReq) (sc := defScope sReq) (by decide +kernel))
          (fun _ _ _ _ _ => pg_name (i := 6) scReq.nd rfl (Or.inl rfl)) (fun _ _ _ _ _ => pts_nil) (fun _ _ _ _ _ => pv 6) (fun _ _ _ _ _ => pe_bl)) pa_nil)))) pss_nil))))
    (pss_cons (ps_set (i := 7) scReq.nd rfl (Or.inr rfl) pe_dnewK)
    (pss_cons (ps_set (i := 8) scReq.nd rfl (Or.inl rfl) (pe_lst pa_nil))
    (pss_cons (ps_for PassesOwn.never rfl (pi_list (pe_callB cr_sortedI rfl B.sorted (by decide +kernel) (pa_cons (pe_callTy (call_list_dK rfl) rfl B.list (by decide +kernel) (pa_cons (pv 2) pa_nil)) pa_nil))) (pg_name (i := 3) scReq.nd rfl (Or.inl rfl))
      (pss_cons (ps_asg (pe_ix ix_list (pv 0) (pv 3) (fun _ _ => rfl)) (pg_star rfl (pgs_cons (pg_name (i := 4) scReq.nd rfl (Or.inr rfl)) (pgs_cons (pg_name (i := 5) scReq.nd rfl (Or.inl rfl)) pgs_nil))))
      (pss_cons (ps_expr (pe_bm PySem.F.plainAttrs_list PySem.F.slot_list_append PySem.F.type_list_append mt_append (pv 8) (pa_cons (pe_op op_catT (pe_tup (pa_cons (pv 4) pa_nil)) (pe_callTy call_tuple_of rfl B.tuple (by decide +kernel) (pa_cons
          (pe_lc (own := [("index", 6)]) (g := gName 6) (tt := tYes) rfl scReq.nd (pi_list (pv 5)) (blkOk_by (N := nsReq) (sc := defScope sReq) (by decide +kernel))
          (fun _ _ _ _ _ => pg_name (i := 6) scReq.nd rfl (Or.inl rfl)) (fun _ _ _ _ _ => pts_nil) (fun _ _ _ _ _ => pe_ifExp (pt_cmpR op_eq (pv 4) pe_str (nomark _)) (pv 6) (pe_dget (hu_of hr) (pv 7) (pv 6) (fun _ _ => rfl)))) pa_nil))) pa_nil)))
      (pss_one (ps_dput (hu_of hr) (pv 7) (pv 3) (pe_op op_sub (pe_callB call_len_seq rfl B.len PySem.boot_len (pa_cons (pv 8) pa_nil)) pe_int) rfl)))))
    (pss_one (ps_ret (pv 8))))))))), ?_⟩)
  · obtain ⟨l, LS, lab, rfl, _⟩ := h; rfl
  · obtain ⟨l, LS, lab, rfl, hl, hok, hlen, la, q⟩ := h
    rcases la with rfl | ⟨last, rfl, hlast⟩
    · refine ⟨_, rfl, rfl, _, rfl, iteTb (decide_eq_true rfl) ⟨Nat.zero_le _, fun r nr => ?_⟩⟩
      exact q _ r (same_new nr)
    refine ⟨_, rfl, rfl, _, rfl, iteFb (decide_eq_false (by intro z; cases z)) ?_⟩
    -- required = {last: True}
    refine fun d nd => ⟨_, rfl, upd_same, [(nk last, .bl true)], rfl, (by show 1 ≤ 15; decide), ?_⟩
    rw [upd_upd]
    have dl : l ≠ d := ne_of_none hl nd
    have e0 : mergeK [] [(nk last, V.bl true)] = [(nk last, V.bl true)] := rfl
    rw [e0]
    have s1 := same_new (o := .dK [(nk last, V.bl true)]) nd
    have hd1 := upd_same (H := H) (a := d) (o := .dK [(nk last, V.bl true)])
    generalize upd H d (.dK [(nk last, V.bl true)]) = H1 at s1 hd1
    have neg : RgC (last : Int) (-1) (-1) (last + 1) := by
      have e : ((last : Int) - (-1)).toNat = last + 1 := by omega
      rw [← e]
      exact RgC.neg (by omega) (by omega) (by decide) (by decide)
    refine ⟨_, rfl, 1, rfl, 1, rfl, _, _, _, last + 1, rfl, neg, for_rangeC (fun i σ H' => ∃ (kvs : List (L2.Key × V)) (R : List Nat) (z1 z2 z3 : Option V), σ = [some (.ref l), some (.int (last : Nat)), some (.ref d), z1, z2, z3, none, none, none] ∧ Same H H' ∧ H' d = some (.dK kvs) ∧ IsReq kvs R ∧
        (∀ n ∈ R, n ≤ last) ∧ R.length ≤ 1 + 2 * i ∧ ∀ n ∈ R, last < n + i → Needs H LS R n)
      ⟨_, [last], none, none, none, rfl, s1, hd1, rfl, fun n hn => by rw [List.mem_singleton.mp hn]; exact Nat.le_refl _, Nat.le_refl _, fun n hn h => by rw [List.mem_singleton.mp hn] at h; omega⟩ (fun i σ H2 hi p => ?_) (fun σ H2 p => ?_)⟩
    · obtain ⟨kvs, R, z1, z2, z3, rfl, s2, hd2, rq, rle, rl, need⟩ := p
      have ei : (last : Int) + (i : Nat) * (-1) = ((last - i : Nat) : Int) := by omega
      rw [ei]
      have hn : last - i < LS.length := by omega
      have eL : LS[last - i]? = some LS[last - i] := List.getElem?_eq_getElem hn
      obtain ⟨b, xs, e1, hb, lc⟩ := hok _ _ eL
      rw [e1] at eL
      obtain ⟨wd, idx, rfl, ine, il, wc⟩ := lc.form
      refine ⟨_, rfl, _, rfl, l, LS, _, .ref b, rfl, rfl, SqL.of (s2 _ _ hl), atI_nat eL, ?_⟩
      refine ⟨b, _, _, rfl, SqT.of (s2 _ _ hb), fun L nL => ⟨_, _, rfl, _, _, rfl, rfl, ?_⟩⟩
      have s3 := s2.trans (same_new (o := .lst (idx.map fun (j : Nat) => V.int (j : Nat))) nL)
      have hd3 := same_new (o := .lst (idx.map fun (j : Nat) => V.int (j : Nat))) nL _ _ hd2
      have hL3 := upd_same (H := H2) (a := L) (o := .lst (idx.map fun (j : Nat) => V.int (j : Nat)))
      generalize upd H2 L (.lst (idx.map fun (j : Nat) => V.int (j : Nat))) = H3 at s3 hd3 hL3
      have idle : (∀ n ∈ R, last < n + (i + 1) → Needs H LS R n) → ∃ (kvs : List (L2.Key × V)) (R : List Nat) (z1 z2 z3 : Option V), ([some (.ref l), some (.int (last : Nat)), some (.ref d), some (.int ((last - i : Nat) : Int)), some (.str wd), some (.ref L), none, none, none] : Sl) = [some (.ref l), some (.int (last : Nat)), some (.ref d), z1, z2, z3, none, none, none] ∧ Same H H3 ∧ H3 d = some (.dK kvs) ∧ IsReq kvs R ∧
        (∀ n ∈ R, n ≤ last) ∧ R.length ≤ 1 + 2 * (i + 1) ∧ ∀ n ∈ R, last < n + (i + 1) → Needs H LS R n := fun k => ⟨kvs, R, _, _, _, rfl, s3, hd3, rq, rle, by omega, k⟩
      have gk := DGet.k (k := nk (last - i)) hd3
      refine ⟨_, rfl, _, rfl, d, _, rfl, gk, _, rfl, ?_⟩
      rw [rq.some]
      refine iteD (fun inR => ?_) fun notR => ?_
      · refine ⟨_, rfl, rfl, _, rfl, ?_⟩
        rcases wc with hw | ⟨hw, hlt⟩
        · refine iteFb (by rw [hw]; simp) ?_
          refine idle fun n hn h => ?_
          by_cases hni : last < n + i
          · exact need n hn hni
          · have en : n = last - i := by have := rle n hn; omega
            subst en
            intro b' wd' idx' g1 g2 g3
            rw [eL] at g1
            cases g1
            rw [hb] at g2
            have g2 := HO.tup.inj (Option.some.inj g2)
            have g4 := V.str.inj (List.cons.inj g2).1
            exact absurd (g4.symm.trans hw) g3
        · refine iteTb (by rw [decide_eq_false (fun z => hw (V.str.inj z))]; rfl) ?_
          refine ⟨_, rfl, .inr (.inr (.inl ⟨rfl, .inl ⟨_, hd3⟩⟩)), _, rfl, L, rfl, ⟨_, SqL.of hL3⟩, fun D nD => ?_⟩
          refine dc_filt walk_list (fun _ => true) (fun i => nk ((idx[i]?).getD 0)) (fun _ => .bl true) (by rw [List.length_map]; exact Nat.le_trans il (by decide)) (fun H' s' => SqL.of (s' _ _ hL3)) nD (fun j x H4 H5 Q2 N hj s4 y k1 k2 => ?_) (fun H4 s4 hD4 => ?_)
          · obtain ⟨rfl, ej⟩ := y
            rw [List.length_map] at hj
            have ej2 : idx[j]? = some idx[j] := List.getElem?_eq_getElem hj
            rw [List.getElem?_map, ej2] at ej
            cases ej
            refine ⟨rfl, _, rfl, ?_⟩
            have k3 := k1 rfl _ (Same.refl _)
            rw [ej2] at k3
            exact k3
          · rw [List.length_map] at hD4
            obtain ⟨R2, c1, c2, c3⟩ := req_comp idx idx.length (Nat.le_refl _)
            rw [List.take_length] at c2
            obtain ⟨R', m1, m2, m3⟩ := rq.merge c1
            have hd4 := s4 _ _ hd3
            have s5 := s3.trans s4
            have lk := congrArg List.length rq
            rw [List.length_map, List.length_map] at lk
            have lk2 := congrArg List.length c1
            rw [List.length_map, List.length_map] at lk2
            have ndD : d ≠ D := ne_of_none hd3 nD
            refine ⟨d, D, kvs, _, rfl, rfl, ndD, hd4, hD4, ?_, ?_⟩
            · rw [lk, lk2]
              have e6 : sizeLine = 16777216 := by decide
              rw [e6]
              omega
            have sub : ∀ n ∈ R, n ∈ R' := fun n hn => (m2 n).mpr (.inl hn)
            refine ⟨_, R', _, _, _, rfl, ?_, upd_same, m1, fun n hn => ?_, by omega, fun n hn h => ?_⟩
            · exact same_upd s5 nd
            · rcases (m2 n).mp hn with z | z
              · exact rle n z
              · have := hlt n ((c2 n).mp z); omega
            · have hnR : n ∈ R := by
                rcases (m2 n).mp hn with z | z
                · exact z
                · have := hlt n ((c2 n).mp z); omega
              by_cases hni : last < n + i
              · exact fun b' wd' idx' g1 g2 g3 j hj => sub j (need n hnR hni b' wd' idx' g1 g2 g3 j hj)
              · have en : n = last - i := by have := rle n hnR; omega
                subst en
                intro b' wd' idx' g1 g2 g3 j hj
                rw [eL] at g1
                cases g1
                rw [hb] at g2
                have g2 := HO.tup.inj (Option.some.inj g2)
                have g5 := idx_inj (List.cons.inj g2).2
                rw [← g5] at hj
                exact (m2 j).mpr (.inr ((c2 j).mpr hj))
      · refine iteF ?_
        refine idle fun n hn h => need n hn ?_
        have : n ≠ last - i := fun z => notR (by rw [← z]; exact hn)
        have := rle n hn
        omega
    · obtain ⟨kvs, R, z1, z2, z3, rfl, s2, hd2, rq, rle, rl, need⟩ := p
      have need : ∀ n ∈ R, Needs H LS R n := fun n hn => need n hn (by omega)
      refine fun dn ndn => ?_
      have s3 := s2.trans (same_new (o := .dK []) ndn)
      have hd3 := same_new (o := .dK []) ndn _ _ hd2
      have hn3 := upd_same (H := H2) (a := dn) (o := .dK [])
      have dnn : H dn = none := s2.free ndn
      generalize upd H2 dn (.dK []) = H3 at s3 hd3 hn3
      refine ⟨Nat.zero_le _, fun rs nrs => ?_⟩
      have s4 := s3.trans (same_new (o := .lst []) nrs)
      have hd4 := same_new (o := .lst []) nrs _ _ hd3
      have hn4 := same_new (o := .lst []) nrs _ _ hn3
      have hr4 := upd_same (H := H3) (a := rs) (o := .lst [])
      have rsn : H rs = none := s3.free nrs
      have dnrs : dn ≠ rs := ne_of_none hn3 nrs
      generalize upd H3 rs (.lst []) = H4 at s4 hd4 hn4 hr4
      -- sorted(list(required))
      have kmap : kvs.map (fun kv => kV kv.1) = (R.map fun n => ((n : Nat) : Int)).map V.int := by
        have e : kvs.map (fun kv => kV kv.1) = (kvs.map (·.1)).map kV := by rw [List.map_map]; rfl
        rw [e, rq, List.map_map, List.map_map]
        rfl
      refine ⟨_, rfl, d, kvs, rfl, hd4, fun p np => ?_⟩
      rw [kmap]
      have s5 := s4.trans (same_new (o := .lst ((R.map fun n => ((n : Nat) : Int)).map V.int)) np)
      have hn5 := same_new (o := .lst ((R.map fun n => ((n : Nat) : Int)).map V.int)) np _ _ hn4
      have hr5 := same_new (o := .lst ((R.map fun n => ((n : Nat) : Int)).map V.int)) np _ _ hr4
      refine ⟨p, _, rfl, SqL.of upd_same, fun ys sp pm pw nsp => ?_⟩
      generalize upd H4 p (.lst ((R.map fun n => ((n : Nat) : Int)).map V.int)) = H5 at s5 hn5 hr5 nsp
      have s6 := s5.trans (same_new (o := .lst (ys.map V.int)) nsp)
      have hn6 := same_new (o := .lst (ys.map V.int)) nsp _ _ hn5
      have hr6 := same_new (o := .lst (ys.map V.int)) nsp _ _ hr5
      have hy6 := upd_same (H := H5) (a := sp) (o := .lst (ys.map V.int))
      have spn : sp ≠ dn := ne_of hy6 hn6 (by intro z; cases z)
      have spr : sp ≠ rs := (ne_of_none hr5 nsp).symm
      generalize upd H5 sp (.lst (ys.map V.int)) = H6 at s6 hn6 hr6 hy6
      have ylen : ys.length = R.length := by rw [pm.length_eq, List.length_map]
      refine ⟨sp, rfl, ⟨_, SqL.of hy6⟩, for_list (K := K) (a := sp) (xs := ys.map V.int) (fun i σ H' => ∃ (kn : List (L2.Key × V)) (rl' : List V) (y1 y2 y3 : Option V), σ = [some (.ref l), some (.int (last : Nat)), some (.ref d), y1, y2, y3, none, some (.ref dn), some (.ref rs)] ∧ Same H H' ∧ H' sp = some (.lst (ys.map V.int)) ∧
          H' dn = some (.dK kn) ∧ H' rs = some (.lst rl') ∧ rl'.length = i ∧ kn.length ≤ i ∧ ∀ m ∈ ys.take i, ∃ t : Int, valV kn (Sum.inl m) = some (.int t))
        ⟨_, _, _, _, _, rfl, s6, hy6, hn6, hr6, rfl, Nat.le_refl _, fun m hm => by simp at hm⟩ (fun i σ H' _ ⟨_, _, _, _, _, _, _, h, _⟩ => SqL.of h) (fun i x σ H7 hx p => ?_) (fun σ H7 p => ?_)⟩
      · obtain ⟨kn, rl', y1, y2, y3, rfl, s7, hy7, hn7, hr7, rlen, klen, ask⟩ := p
        rw [List.getElem?_map] at hx
        obtain ⟨m, hm, rfl⟩ := Option.map_eq_some_iff.mp hx
        have hi : i < ys.length := (List.getElem?_eq_some_iff.mp hm).1
        have mR : ∃ n ∈ R, ((n : Nat) : Int) = m := by
          have := pm.mem_iff.mp (List.mem_of_getElem? hm)
          obtain ⟨n, h1, h2⟩ := List.mem_map.mp this
          exact ⟨n, h1, h2⟩
        obtain ⟨n, nR, rfl⟩ := mR
        have hn : n < LS.length := by have := rle n nR; omega
        have eL : LS[n]? = some LS[n] := List.getElem?_eq_getElem hn
        obtain ⟨b, xs, e1, hb, lc⟩ := hok _ _ eL
        rw [e1] at eL
        obtain ⟨wd, idx, rfl, ine, il, wc⟩ := lc.form
        refine ⟨_, rfl, _, rfl, l, LS, _, .ref b, rfl, rfl, SqL.of (s7 _ _ hl), atI_nat eL, ?_⟩
        refine ⟨b, _, _, rfl, SqT.of (s7 _ _ hb), fun L nL => ⟨_, _, rfl, _, _, rfl, rfl, ?_⟩⟩
        have t8 := same_new (o := .lst (idx.map fun (j : Nat) => V.int (j : Nat))) nL
        have s8 := s7.trans t8
        have hL8 := upd_same (H := H7) (a := L) (o := .lst (idx.map fun (j : Nat) => V.int (j : Nat)))
        have hn8 := t8 _ _ hn7
        have hr8 := t8 _ _ hr7
        have hy8 := t8 _ _ hy7
        generalize upd H7 L (.lst (idx.map fun (j : Nat) => V.int (j : Nat))) = H8 at s8 hL8 hn8 hr8 hy8
        clear t8
        -- what the indexes stand for
        have val : ∃ g : Nat → V, ∀ j, j < idx.length → (wd = "generator" → g j = .int ((idx[j]?).getD 0 : Nat)) ∧ (wd ≠ "generator" → valV kn (Sum.inl (((idx[j]?).getD 0 : Nat) : Int)) = some (g j)) := by
          by_cases hw : wd = "generator"
          · exact ⟨fun j => .int ((idx[j]?).getD 0 : Nat), fun j _ => ⟨fun _ => rfl, fun z => absurd hw z⟩⟩
          · refine ⟨fun j => (valV kn (Sum.inl (((idx[j]?).getD 0 : Nat) : Int))).getD .non, fun j hj => ⟨fun z => absurd z hw, fun _ => ?_⟩⟩
            have ej : idx[j]? = some idx[j] := List.getElem?_eq_getElem hj
            have hjm : idx[j] ∈ idx := List.mem_of_getElem? ej
            have hlt : idx[j] < n := by
              rcases wc with z | z
              · exact absurd z hw
              · exact z.2 _ hjm
            have inR := need n nR b wd idx eL hb hw _ hjm
            have inY : ((idx[j] : Nat) : Int) ∈ ys := pm.mem_iff.mpr (List.mem_map.mpr ⟨_, inR, rfl⟩)
            obtain ⟨q1, hq1, eq1⟩ := List.mem_iff_getElem.mp inY
            have before : q1 < i := by
              rcases Nat.lt_or_ge q1 i with z | z
              · exact z
              · exfalso
                rcases Nat.lt_or_eq_of_le z with z | z
                · have := List.pairwise_iff_getElem.mp pw i q1 hi hq1 z
                  have e2 := (List.getElem?_eq_some_iff.mp hm).2
                  rw [e2, eq1] at this
                  omega
                · subst z
                  have e2 := (List.getElem?_eq_some_iff.mp hm).2
                  rw [eq1] at e2
                  omega
            obtain ⟨t, et⟩ := ask _ (List.mem_take_iff_getElem.mpr ⟨q1, by omega, eq1⟩)
            have et' : valV kn (Sum.inl (((some idx[j]).getD 0 : Nat) : Int)) = some (.int t) := et
            show valV kn _ = some ((valV kn (Sum.inl (((idx[j]?).getD 0 : Nat) : Int))).getD .non)
            rw [ej, et']
            rfl
        obtain ⟨g, hg⟩ := val
        -- result.append((word,) + tuple([..]))
        refine ⟨_, rfl, .inl ⟨rfl, _, SqL.of hr8⟩, _, rfl, (by show 1 ≤ sizeLine; decide), fun a na => ?_⟩
        have t9 := same_new (o := .tup [.str wd]) na
        have s9 := s8.trans t9
        have ha9 := upd_same (H := H8) (a := a) (o := .tup [.str wd])
        have hL9 := t9 _ _ hL8
        have hn9 := t9 _ _ hn8
        have hr9 := t9 _ _ hr8
        have hy9 := t9 _ _ hy8
        generalize upd H8 a (.tup [.str wd]) = H9 at s9 ha9 hL9 hn9 hr9 hy9
        clear t9
        refine ⟨_, rfl, L, rfl, ⟨_, SqL.of hL9⟩, fun D nD => ?_⟩
        refine lc_map walk_list g (by rw [List.length_map]; exact Nat.le_trans il (by decide)) (fun H' s' => SqL.of (s' _ _ hL9)) nD (fun j x HA HB Q2 hj sA y k => ?_) (fun HA sA hDA => ?_)
        · obtain ⟨rfl, ej⟩ := y
          rw [List.length_map] at hj
          have ej2 : idx[j]? = some idx[j] := List.getElem?_eq_getElem hj
          rw [List.getElem?_map, ej2] at ej
          cases ej
          obtain ⟨g1, g2⟩ := hg j hj
          rw [ej2] at g1 g2
          refine ⟨rfl, _, rfl, rfl, _, rfl, iteD (fun z => ?_) fun z => ?_⟩
          · have z := V.str.inj z
            refine ⟨_, rfl, ?_⟩
            have k2 := k _ (Same.refl _)
            rw [g1 z] at k2
            exact k2
          · have z : wd ≠ "generator" := fun e => z (by rw [e])
            have gk := DGet.k (k := nk idx[j]) (sA _ _ hn9)
            have g3 : valV kn (nk idx[j]) = some (g j) := g2 z
            rw [g3] at gk
            exact ⟨_, rfl, _, rfl, dn, _, rfl, gk, k _ (Same.refl _)⟩
        · rw [List.length_map] at hDA
          refine ⟨D, _, rfl, .inl ⟨SqL.of hDA, fun tp ntp => ?_⟩⟩
          have tB := sA.trans (same_new (o := .tup ((List.range idx.length).map g)) ntp)
          have hT := upd_same (H := HA) (a := tp) (o := .tup ((List.range idx.length).map g))
          generalize upd HA tp (.tup ((List.range idx.length).map g)) = HB at tB hT
          have gne : (List.range idx.length).map g ≠ [] := fun z => by
            have := congrArg List.length z
            rw [List.length_map, List.length_range] at this
            exact ine (List.length_eq_zero_iff.mp this)
          refine ⟨a, tp, _, _, rfl, rfl, SqT.of (tB _ _ ha9), SqT.of hT, by simp, ?_, fun z => absurd z gne, fun _ c nc => ?_⟩
          · rw [List.length_map, List.length_range]
            have e6 : sizeLine = 16777216 := by decide
            rw [e6]
            show 1 + idx.length ≤ _
            omega
          have tC := tB.trans (same_new (o := .tup ([V.str wd] ++ (List.range idx.length).map g)) nc)
          generalize upd HB c (.tup ([V.str wd] ++ (List.range idx.length).map g)) = HC at tC
          have e6 : sizeLine = 16777216 := by decide
          refine ⟨rs, rl', _, rfl, rfl, tC _ _ hr9, (by rw [rlen, e6]; omega), ?_⟩
          have hrD := upd_same (H := HC) (a := rs) (o := .lst (rl' ++ [.ref c]))
          have sD : Same H (upd HC rs (.lst (rl' ++ [.ref c]))) := same_upd (s9.trans tC) rsn
          have hnD : upd HC rs (.lst (rl' ++ [.ref c])) dn = some (.dK kn) := by rw [upd_ne dnrs]; exact tC _ _ hn9
          have hyD : upd HC rs (.lst (rl' ++ [.ref c])) sp = some (.lst (ys.map V.int)) := by rw [upd_ne spr]; exact tC _ _ hy9
          generalize upd HC rs (.lst (rl' ++ [.ref c])) = HD at hrD sD hnD hyD
          -- numbers[number] = len(result) - 1
          refine ⟨_, rfl, _, _, rfl, .inl (SqL.of hrD), _, _, rfl, rfl, _, rfl, _, rfl, dn, _, rfl, DPut.k (k := nk n) hnD (by rw [e6]; omega), ?_⟩
          refine ⟨_, _, _, _, _, rfl, same_upd sD dnn, by rw [upd_ne spn]; exact hyD, upd_same, by rw [upd_ne dnrs.symm]; exact hrD, by rw [List.length_append, rlen]; rfl, Nat.le_trans (length_putK _ _ _) (Nat.succ_le_succ klen), fun m' hm' => ?_⟩
          rw [valV_put]
          rw [List.take_add_one, hm] at hm'
          rcases List.mem_append.mp hm' with z | z
          · by_cases e : (Sum.inl m' : L2.Key) = nk n
            · rw [if_pos e]; exact ⟨_, rfl⟩
            · rw [if_neg e]; exact ask m' z
          · have z : m' = (n : Int) := by simpa using z
            rw [if_pos (by rw [z]; rfl)]
            exact ⟨_, rfl⟩
      · obtain ⟨kn, rl', y1, y2, y3, rfl, s7, hy7, hn7, hr7, rlen, klen, ask⟩ := p
        exact ⟨_, rfl, q _ rs s7⟩
end
end K73
set_option Elab.async false
set_option linter.all false
set_option maxRecDepth 100000
set_option maxHeartbeats 2000000
/-! K73Der: a derivation, derive_all. -/
namespace K73
open PySem PySem.Spec PyProof.Rows L2
/-- the class of that name is made by an __init__ that keeps its promise -/
structure HasI (P : Program) (w : World) (K : PySem.W.Frag) (mg : Str → Option Value) (base : Heap) (k : Nat) (x : Str) (C : Addr) (ps : List Str) (sp : Sp) : Prop where
  ex : ∃ (f : Addr) (fd : FuncData), mg x = some (.ref C) ∧ Mk K C f ∧ Binds K fd ps [] ∧ FnOk P w K mg base CX0 k f fd ps sp
section
variable {X : Cx} {k : Nat} {ps : List Str} {sp : Sp} {x : Str} {C : Addr} {p pos : Pos} {e : Expr} {es : List Expr} {t : TA}
theorem pe_hi (Z : HasI X.prog X.w X.K X.mg X.base k x C ps sp) (hr : Room (k + 1) X.A) (ha : PA X (e :: es) t) (hg : Gl X x := by rfl) (hdb : (x == ("__debug__" : Str)) = false := by decide) (he : starEach (e :: es) X.env = (false, eval e X.env) :: starEach es X.env := by rfl)
    (hpl : (backTo pos (starEach es X.env)).any (·.1) = false := by rfl) : PE X (.Call (.Name x p) (e :: es) [] pos) (tMake C sp [] E0 t) := by
  obtain ⟨f, fd, g, M, b, G⟩ := Z.ex
  exact pe_make M G hr hg g b .nil pass0 ha hdb he hpl
theorem pe_hi0 (Z : HasI X.prog X.w X.K X.mg X.base k x C ps sp) (hr : Room (k + 1) X.A) (hg : Gl X x := by rfl) (hdb : (x == ("__debug__" : Str)) = false := by decide) : PE X (.Call (.Name x p) [] [] pos) (tMake C sp [] E0 tNil) := by
  obtain ⟨f, fd, g, M, b, G⟩ := Z.ex
  exact pe_make0 M G hr hg g b .nil pass0 hdb
end
theorem far_le (E : Gr) : ∀ (w : List Nat) (u : Nat), (far E u w).2 ≤ w.length
  | [], u => Nat.le_refl _
  | c :: w, u => by
    show (match E u c with
      | none => (u, 0)
      | some v => ((far E v w).1, (far E v w).2 + 1)).2 ≤ w.length + 1
    cases E u c with
    | none => exact Nat.zero_le _
    | some v => exact Nat.succ_le_succ (far_le E w v)
def spDer (C : Addr) : Sp := fun vs H Q _ => ∃ (o : LFA) (E : Gr) (M : Mg) (P : Pd) (nx nl nt nm : Nat) (w : List Nat), vs = [.ref o.p, .str (tx w)] ∧ LFB C o H E M P nx nl nt nm ∧ w.length ≤ 60 ∧ nl ≤ 400000 ∧
  ∀ H' v nl', Fr o H H' → LFB C o H' E M P nx nl' nt nm → ((v = .non ∧ run E 0 w ≠ some 0) ∨ ((∃ r, v = .ref r) ∧ run E 0 w = some 0)) → Q v H'
def spDerive (K : PySem.W.Frag) : Sp := fun vs H Q _ => ∃ (a g : Addr) (ws : List (List Nat)) (w : List Nat), vs = [.ref a, .ref g] ∧ H a = some (.lst (words ws)) ∧ SqL K H g [.str (tx w)] ∧ (∀ w ∈ ws, Steps w ∧ w.length ≤ 8) ∧ ws.length ≤ 13 ∧ Steps w ∧ w.length ≤ 60 ∧
  ∀ H' D v, Same H H' → H' D = some (.lst [v]) → ((v = .non ∧ ¬ Gen ws w) ∨ ((∃ r, v = .ref r) ∧ Gen ws w)) → Q (.ref D) H'
section
variable {P : Program} {w : World} {K : PySem.W.Frag} {mg : Str → Option Value} {base : Heap} {f C : Addr} {fd : FuncData}
def nsDer : List Str := ["self", "path", "node", "label", "position"]
theorem scDer : FnScope nsDer ["self", "path"] (defScope (sLF 10)) := ⟨rfl, rfl, rfl, by decide +kernel, rfl, by decide +kernel, by decide +kernel⟩
theorem ok_der (F : MtP K "LabelledFolding.derivation_of" "derivation_of" (sLF 10) f fd) (B : Bi mg) (T : LFT K C) (ZW : HasM P w K mg base 2 C "walk" ["self", "path"] (spWalk C)) (ZR : Has P w K mg base 1 "required_lines" ["lines", "last"] (spReq K)) :
    FnOk P w K mg base CX0 3 f fd ["self", "path"] (spDer C) := by
  refine F.ok scDer (fun vs H Q E h => ?_) (fun cdv A outer s H vs Q E hr h => ⟨_, PSs.nox (pss_cons (ps_asg (pe_hm ZW T.cl hr (pv 0) (pa_cons (pv 1) pa_nil)) (pg_tup rfl (pgs_cons (pg_name (i := 2) scDer.nd rfl (Or.inl rfl)) (pgs_cons (pg_name (i := 3) scDer.nd rfl (Or.inl rfl)) (pgs_cons (pg_name (i := 4) scDer.nd rfl (Or.inl rfl)) pgs_nil)))))
    (pss_cons (ps_if (PW.pt (pw_or (pt_cmpR op_ne (pv 2) pe_int (nomark _)) (pw_or1 (pt_cmpR op_lt (pv 4) (pe_callB call_len_str rfl B.len PySem.boot_len (pa_cons (pv 1) pa_nil)) (nomark _))))) (pss_one (ps_ret pe_non)) pss_nil)
    (pss_one (ps_ret (pe_h ZR (hr.mono (by decide)) (pa_cons (pe_fld (pv 0) rfl) (pa_cons (pv 3) pa_nil))))))), ?_⟩)
  · obtain ⟨o, E, M, P, nx, nl, nt, nm, w, rfl, _⟩ := h; rfl
  · obtain ⟨o, E, M, P, nx, nl, nt, nm, w, rfl, B0, hw, hnl, q⟩ := h
    obtain ⟨_, _, _, _, V0, _⟩ := id B0.ex
    refine ⟨_, rfl, o.p, o.dx, _, rfl, V0.p, lff_no (by decide +kernel), _, rfl, ?_⟩
    refine ⟨o, E, M, P, nx, nl, nt, nm, w, rfl, B0, (by show _ ≤ 16000000; omega), by omega, fun H1 r v nl1 l1 m1 f1 B1 la hr1 => ?_⟩
    refine ⟨r, _, rfl, SqT.of hr1, rfl, _, _, rfl, _, _, rfl, _, _, rfl, rfl, ?_⟩
    have fr := far_run (E := E) (w := w) (u := 0)
    obtain ⟨LS, kT, kM, LP, V1, e1, e2, e3, rT, rM, rP⟩ := id B1.ex
    refine ⟨_, rfl, rfl, _, rfl, ?_⟩
    by_cases h0 : (far E 0 w).1 = 0
    · refine iteFb (by rw [h0]; rfl) ?_
      refine ⟨_, rfl, _, rfl, _, rfl, (by rw [tx_len]; exact Nat.le_trans hw (by decide)), _, _, rfl, rfl, ?_⟩
      rw [tx_len]
      refine ⟨_, rfl, iteD (fun hlt => ?_) fun hge => ?_⟩
      · exact q _ _ nl1 f1 B1 (.inl ⟨rfl, fun z => by have := (fr.mp z).2; omega⟩)
      · refine ⟨_, rfl, o.p, C, o.dx, _, _, rfl, V1.p, T.cl, T.nl, lff_l, _, rfl, ?_⟩
        refine ⟨o.l, LS, v, rfl, V1.l, V1.ok, by omega, by rw [e1]; exact la, fun H2 r2 s2 => ?_⟩
        refine q _ _ nl1 (f1.trans (Fr.of s2)) (B1.same s2) (.inr ⟨⟨_, rfl⟩, fr.mpr ⟨h0, ?_⟩⟩)
        have : (far E 0 w).2 ≤ w.length := far_le E w 0
        omega
    · refine iteTb (by
        rw [decide_eq_false (fun z => h0 (by have := V.int.inj z; omega))]
        rfl) ?_
      exact iteT (q _ _ nl1 f1 B1 (.inl ⟨rfl, fun z => h0 (fr.mp z).1⟩))
abbrev sDerive : Stmt := topS 40
def nsDerive : List Str := ["paths", "goals", "folding", "goal"]
theorem scDerive : FnScope nsDerive ["paths", "goals"] (defScope sDerive) := ⟨rfl, rfl, rfl, by decide +kernel, rfl, by decide +kernel, by decide +kernel⟩
theorem ok_derive (F : FnP K "derive_all" sDerive f fd) (T : LFT K C) (ZI : HasI P w K mg base 6 "LabelledFolding" C ["self", "paths"] (spLInit K C)) (ZD : HasM P w K mg base 3 C "derivation_of" ["self", "path"] (spDer C)) : FnOk P w K mg base CX0 8 f fd ["paths", "goals"] (spDerive K) := by
  refine F.ok scDerive (fun vs H Q E h => ?_) (fun cdv A outer s H vs Q E hr h => ⟨_, PSs.nox (pss_cons (ps_set (i := 2) scDerive.nd rfl (Or.inr rfl) (pe_hi ZI hr (pa_cons (pv 0) pa_nil)))
    (pss_one (ps_ret (pe_lc (own := [("goal", 3)]) (g := gName 3) (tt := tYes) rfl scDerive.nd (pi_list (pv 1)) (blkOk_by (N := nsDerive) (sc := defScope sDerive) (by decide +kernel))
          (fun _ _ _ _ _ => pg_name (i := 3) scDerive.nd rfl (Or.inl rfl)) (fun _ _ _ _ _ => pts_nil) (fun _ _ _ _ _ => pe_hm ZD T.cl (hr.mono (by decide)) (pv 2) (pa_cons (pv 3) pa_nil)))))), ?_⟩)
  · obtain ⟨a, g, ws, w, rfl, _⟩ := h; rfl
  · obtain ⟨a, g, ws, w, rfl, ha, hg, hws, hlen, hw, hwl, q⟩ := h
    refine ⟨_, rfl, fun p dx np ndx nex => ?_⟩
    have s0 : Same H (upd (upd H dx (.own p)) p (.ins C dx [])) := same_upd (same_new ndx) np
    have npa : p ≠ a := (ne_of_none ha np).symm
    refine ⟨p, dx, a, ws, rfl, upd_same, SqL.of (s0 _ _ ha), npa, hws, hlen, fun H1 o E M nx nl nt nm eo k1 B1 g1 S1 hnl nn => ⟨rfl, ?_⟩⟩
    subst eo
    have s1 : Same H H1 := fun b u e => k1 b u (s0 b u e) (fun z => by rw [z, np] at e; cases e)
    have gen := (g1.fold S1).gen hw
    refine ⟨_, rfl, g, rfl, ⟨_, s1.seq hg⟩, fun D nD => ?_⟩
    have s2 := same_new (o := .lst []) nD
    refine lc_it (walk_list (K := K) (a := g) (xs := [.str (tx w)])) (fun i H' => SqL K H' g [.str (tx w)] ∧ Same H H' ∧ ((i = 0 ∧ H' D = some (.lst []) ∧ LFB C o H' E M [] nx nl nt nm) ∨ (i = 1 ∧ ∃ v, H' D = some (.lst [v]) ∧ ((v = .non ∧ ¬ Gen ws w) ∨ ((∃ r, v = .ref r) ∧ Gen ws w)))))
      ⟨s2.seq (s1.seq hg), s1.trans s2, .inl ⟨rfl, upd_same, B1.same s2⟩⟩ (fun i H' _ pv => pv.1) (fun i x H2 H3 hi pv y => ?_) (fun H2 pv => ?_)
    · obtain ⟨rfl, ex⟩ := y
      have hi0 : i = 0 := by
        have : i < 1 := hi
        omega
      subst hi0
      cases ex
      obtain ⟨hg2, s3, pv⟩ := pv
      rcases pv with ⟨_, hD, B2⟩ | ⟨z, _⟩
      · obtain ⟨_, _, _, _, V2, _⟩ := id B2.ex
        refine ⟨rfl, _, rfl, o.p, o.dx, _, rfl, V2.p, lff_no (by decide +kernel), _, rfl, ?_⟩
        refine ⟨o, E, M, [], nx, nl, nt, nm, w, rfl, B2, hwl, hnl, fun H4 v nl4 f4 B4 hv => ?_⟩
        have s4 : Same H H4 := fun b u e => f4 b u (s3 b u e) (ne_of_none e np) (ne_of_none e (s0.free nn.1)) (ne_of_none e (s0.free nn.2.1)) (ne_of_none e (s0.free nn.2.2.1)) (ne_of_none e (s0.free nn.2.2.2))
        obtain ⟨_, _, _, _, V1, _⟩ := id B1.ex
        have hD4 := f4 D _ hD (ne_of_none V1.p nD).symm (ne_of_none V1.l nD).symm (ne_of_none V1.t nD).symm (ne_of_none V1.m nD).symm (ne_of_none V1.q nD).symm
        have hDn : H D = none := s1.free nD
        have s5 := same_upd (o := .lst ([] ++ [v])) s4 hDn
        refine ⟨[], hD4, by decide, s5.seq hg, s5, .inr ⟨rfl, v, upd_same, ?_⟩⟩
        rcases hv with ⟨h1, h2⟩ | ⟨h1, h2⟩
        · exact .inl ⟨h1, fun z => h2 (gen.mpr z)⟩
        · exact .inr ⟨h1, gen.mp h2⟩
      · cases z
    · obtain ⟨_, s3, pv⟩ := pv
      rcases pv with ⟨z, _⟩ | ⟨_, v, hD, hv⟩
      · cases z
      · exact q _ D v s3 hD hv
end
end K73
set_option Elab.async false
set_option linter.all false
set_option maxRecDepth 100000
set_option maxHeartbeats 2000000
/-! K73LawA: the law's edges. -/
namespace K73
open PySem PySem.Spec PyProof.Rows L2
abbrev lInitial : Stmt := topS 52
abbrev lConflict : Stmt := topS 53
abbrev lMerged : Stmt := topS 54
abbrev lFolded : Stmt := topS 55
abbrev lEnd : Stmt := topS 56
def edV (e : Ed) : List V := [.str (ch e.1), .int (e.2.1 : Nat), .int (e.2.2 : Nat)]
def ERel (H : Hp) (LE : List V) (L : List Ed) : Prop := LE.length = L.length ∧ ∀ (i : Nat) (e : Ed), L[i]? = some e → ∃ b : Addr, LE[i]? = some (V.ref b) ∧ H b = some (.tup (edV e))
theorem ERel.to {H H' : Hp} {LE : List V} {L : List Ed} (r : ERel H LE L) (s : TupS H H') : ERel H' LE L :=
  ⟨r.1, fun i e h => let ⟨b, h1, h2⟩ := r.2 i e h; ⟨b, h1, s _ _ h2⟩⟩
theorem ERel.snoc {H : Hp} {LE : List V} {L : List Ed} (r : ERel H LE L) {b : Addr} {e : Ed} (hb : H b = some (.tup (edV e))) : ERel H (LE ++ [.ref b]) (L ++ [e]) := by
  refine ⟨by rw [List.length_append, List.length_append, r.1]; rfl, fun i x h => ?_⟩
  rw [List.getElem?_append] at h ⊢
  rw [r.1]
  split at h
  · rename_i hi
    rw [if_pos hi]
    exact r.2 i x h
  · rename_i hi
    rw [if_neg hi]
    cases q : i - L.length with
    | zero =>
      rw [q] at h
      cases h
      exact ⟨b, rfl, hb⟩
    | succ j =>
      rw [q] at h
      cases h
/-- upper case or lower case -/
theorem upper_step {c : Nat} (h : isStep c) : decide (c ∈ (("ABCD" : Str)).cps.toList) = decide (c < 96) := by
  rcases h with rfl | rfl | rfl | rfl | rfl | rfl | rfl | rfl <;> decide +kernel
def spInitial (K : PySem.W.Frag) : Sp := fun vs H Q _ => ∃ (a : Addr) (ws : List (List Nat)), vs = [.ref a] ∧ SqL K H a (words ws) ∧ (∀ w ∈ ws, Steps w ∧ w.length ≤ 8) ∧ ws.length ≤ 13 ∧
  ∀ H' r LE L n, Same H H' → H' r = some (.lst LE) → ERel H' LE L → LEd L (ws.map red) → Under L n → n ≤ 120 → L.length ≤ 104 → Q (.ref r) H'
section
variable {P : Program} {w : World} {K : PySem.W.Frag} {mg : Str → Option Value} {base : Heap} {f : Addr} {fd : FuncData}
def nsInitial : List Str := ["_law_paths", "_law_edges", "_law_free", "_law_path_here", "_law_steps", "_law_source", "_law_number", "_law_step", "_law_node"]
theorem scInitial : FnScope nsInitial ["_law_paths"] (defScope lInitial) := ⟨rfl, rfl, rfl, by decide +kernel, rfl, by decide +kernel, by decide +kernel⟩
theorem ok_initial (F : FnP K "_law_initial" lInitial f fd) (B : Bi mg) (ZS : Has P w K mg base 2 "_law_short" ["_law_path_here"] spShort) (ZB : Has P w K mg base 1 "_law_back" ["_law_step"] spBack) : FnOk P w K mg base CX0 3 f fd ["_law_paths"] (spInitial K) := by
  refine F.ok scInitial (fun vs H Q E h => ?_) (fun cdv A outer s H vs Q E hr h => ⟨_, PSs.nox (pss_cons (ps_set (i := 1) scInitial.nd rfl (Or.inl rfl) (pe_lst pa_nil)) (pss_cons (ps_set (i := 2) scInitial.nd rfl (Or.inl rfl) pe_int)
    (pss_cons (ps_for PassesOwn.never rfl (pi_list (pv 0)) (pg_name (i := 3) scInitial.nd rfl (Or.inl rfl))
      (pss_cons (ps_set (i := 4) scInitial.nd rfl (Or.inl rfl) (pe_h ZS hr (pa_cons (pv 3) pa_nil)))
      (pss_cons (ps_set (i := 5) scInitial.nd rfl (Or.inl rfl) pe_int)
      (pss_one (ps_for PassesOwn.never rfl (pi_enumS (by rfl) B.enumerate (pa_cons (pv 4) pa_nil)) (pg_tup rfl (pgs_cons (pg_name (i := 6) scInitial.nd rfl (Or.inl rfl)) (pgs_cons (pg_name (i := 7) scInitial.nd rfl (Or.inl rfl)) pgs_nil)))
        (pss_cons (ps_set (i := 8) scInitial.nd rfl (Or.inl rfl) (pe_ix ix_list (pe_lst (pa_cons (pv 2) (pa_cons pe_int pa_nil))) (pe_callTy call_int1 rfl B.int (by decide +kernel) (pa_cons (pe_cmpR op_eq (pv 6) (pe_op op_sub (pe_callB call_len_str rfl B.len PySem.boot_len (pa_cons (pv 4) pa_nil)) pe_int) (nomark _)) pa_nil)) (fun _ _ => rfl)))
        (pss_cons (ps_set (i := 2) scInitial.nd rfl (Or.inl rfl) (pe_op op_add (pv 2) (pe_callTy call_int1 rfl B.int (by decide +kernel) (pa_cons (pe_cmpR op_gt (pv 8) pe_int (nomark _)) pa_nil))))
        (pss_cons (ps_expr (pe_bm PySem.F.plainAttrs_list PySem.F.slot_list_append PySem.F.type_list_append mt_append (pv 1) (pa_cons (pe_ix ix_list (pe_lst (pa_cons (pe_tup (pa_cons (pv 7) (pa_cons (pv 5) (pa_cons (pv 8) pa_nil)))) (pa_cons (pe_tup (pa_cons (pe_h ZB (hr.mono (by decide)) (pa_cons (pv 7) pa_nil)) (pa_cons (pv 8) (pa_cons (pv 5) pa_nil)))) pa_nil)))
            (pe_callTy call_int1 rfl B.int (by decide +kernel) (pa_cons (pe_cmpR op_in_sign (pv 7) pe_str rfl) pa_nil)) (fun _ _ => rfl)) pa_nil)))
        (pss_one (ps_set (i := 5) scInitial.nd rfl (Or.inl rfl) (pv 8)))))))))))
    (pss_one (ps_ret (pv 1)))))), ?_⟩)
  · obtain ⟨a, ws, rfl, _⟩ := h; rfl
  · obtain ⟨a, ws, rfl, ha, hws, hlen, q⟩ := h
    refine ⟨Nat.zero_le _, fun r nr => ?_⟩
    have s1 := same_new (o := .lst []) nr
    have hwl : (words ws).length = ws.length := by rw [words, List.length_map]
    refine ⟨_, rfl, a, rfl, ⟨_, s1.seq ha⟩, for_list (K := K) (a := a) (xs := words ws) (fun i σ H' => ∃ (LE : List V) (L : List Ed) (n : Nat) (z1 z2 z3 z4 z5 z6 : Option V), σ = [some (.ref a), some (.ref r), some (.int (n : Nat)), z1, z2, z3, z4, z5, z6] ∧ Same H H' ∧ H' r = some (.lst LE) ∧ ERel H' LE L ∧
        LEd L ((ws.take i).map red) ∧ Under L n ∧ 1 ≤ n ∧ n ≤ 1 + 8 * i ∧ L.length ≤ 8 * i)
      ⟨[], [], 1, _, _, _, _, _, _, rfl, s1, upd_same, ⟨rfl, fun i e h => by cases h⟩, LEd.nil, fun e he => (nomatch he), Nat.le_refl _, Nat.le_refl _, Nat.le_refl _⟩ (fun i σ H' _ ⟨_, _, _, _, _, _, _, _, _, _, s, _⟩ => s.seq ha) (fun i x σ H1 hx p => ?_) (fun σ H1 p => ?_)⟩
    · obtain ⟨LE, L, n, z1, z2, z3, z4, z5, z6, rfl, s2, hr2, er, led, un, n1, nb, lb⟩ := p
      rw [words, List.getElem?_map] at hx
      obtain ⟨w, hw, rfl⟩ := Option.map_eq_some_iff.mp hx
      obtain ⟨hst, hwl8⟩ := hws w (List.mem_of_getElem? hw)
      have hi13 : i < ws.length := (List.getElem?_eq_some_iff.mp hw).1
      have rl := red_len w
      have rst := red_steps hst
      refine ⟨_, rfl, w, rfl, hst, by omega, fun H2 s3 => ?_⟩
      have hl60 : (tx (red w)).length ≤ sizeLine := by rw [tx_len]; exact Nat.le_trans rl (Nat.le_trans hwl8 (by decide))
      have tk : ws.take (i + 1) = ws.take i ++ [w] := by rw [List.take_add_one, hw]; rfl
      refine ⟨_, rfl, _, rfl, for_it walk_enumS (fun j σ H' => ∃ (LE : List V) (L : List Ed) (m src : Nat) (z4 z5 z6 : Option V), σ = [some (.ref a), some (.ref r), some (.int (m : Nat)), some (.str (tx w)), some (.str (tx (red w))), some (.int (src : Nat)), z4, z5, z6] ∧ Same H H' ∧ H' r = some (.lst LE) ∧ ERel H' LE L ∧
          LIn L ((ws.take i).map red) (red w) j src m ∧ (j = (red w).length → src = 0) ∧ m ≤ n + j ∧ L.length ≤ 8 * i + j)
        ⟨LE, L, n, 0, z4, z5, z6, rfl, s2.trans s3, s3 _ _ hr2, er.to (samT s3), LIn.start led un n1 (red w), fun _ => rfl, Nat.le_refl _, lb⟩ (fun _ _ _ _ _ => trivial) (fun j x σ H3 H4 hj p y => ?_) (fun σ H3 p => ?_)⟩
      · obtain ⟨LE, L, m, src, z4, z5, z6, rfl, s4, hr4, er, lin, _, mb, lb⟩ := p
        obtain ⟨T1, c, rfl, nT, rfl, hc⟩ := y
        rw [tx_get] at hc
        rw [tx_size] at hj
        rw [ch_ref]
        have hcs : isStep c := rst c (List.mem_of_getElem? hc)
        have hrT : r ≠ T1 := ne_of_none hr4 nT
        have s5 := s4.trans (same_new (o := .tup [.int (j : Nat), .str (ch c)]) nT)
        have hr5 := same_new (o := .tup [.int (j : Nat), .str (ch c)]) nT _ _ hr4
        have er5 := er.to (samT (same_new (o := .tup [.int (j : Nat), .str (ch c)]) nT))
        refine ⟨T1, _, rfl, SqT.of upd_same, rfl, _, _, rfl, _, _, rfl, rfl, ?_⟩
        generalize upd H3 T1 (.tup [.int (j : Nat), .str (ch c)]) = H5 at s5 hr5 er5
        -- node
        refine ⟨_, rfl, (by show 2 ≤ sizeLine; decide), fun l1 nl1 => ?_⟩
        have s6 := s5.trans (same_new (o := .lst [.int (m : Nat), .int 0]) nl1)
        have hr6 := same_new (o := .lst [.int (m : Nat), .int 0]) nl1 _ _ hr5
        have er6 := er5.to (samT (same_new (o := .lst [.int (m : Nat), .int 0]) nl1))
        have hl6 := upd_same (H := H5) (a := l1) (o := .lst [.int (m : Nat), .int 0])
        show tCB _ _ _ (upd H5 l1 (.lst [.int (m : Nat), .int 0])) _
        generalize upd H5 l1 (.lst [.int (m : Nat), .int 0]) = H6 at s6 hr6 er6 hl6
        refine ⟨_, rfl, _, rfl, _, rfl, hl60, _, _, rfl, rfl, rfl, .inr ⟨_, rfl, ?_⟩⟩
        rw [tx_len]
        have nx : LIn (L ++ [edgeOf c src (if j + 1 = (red w).length then 0 else m)]) ((ws.take i).map red) (red w) (j + 1) (if j + 1 = (red w).length then 0 else m) (if j + 1 = (red w).length then m else m + 1) := lin.next hc hcs
        have node : ∀ (k : VK), (∀ v : Nat, v = (if j + 1 = (red w).length then 0 else m) → k (.int (v : Nat)) H6) → ∃ p xs i v, V.ref l1 = .ref p ∧ V.int (if decide (V.int (j : Nat) = V.int (((red w).length : Nat) - 1)) = true then 1 else 0) = .int i ∧ SqL K H6 p xs ∧ atI xs i = some v ∧ k v H6 := fun k hk => by
          by_cases last : j + 1 = (red w).length
          · rw [decide_eq_true (show V.int (j : Nat) = V.int (((red w).length : Nat) - 1) by congr 1; omega), if_pos rfl]
            exact ⟨l1, _, 1, .int 0, rfl, rfl, SqL.of hl6, atI_nat (j := 1) rfl, hk 0 (by rw [if_pos last])⟩
          · rw [decide_eq_false (show ¬ V.int (j : Nat) = V.int (((red w).length : Nat) - 1) from fun z => last (by have := V.int.inj z; omega)), if_neg (by decide)]
            exact ⟨l1, _, 0, .int (m : Nat), rfl, rfl, SqL.of hl6, atI_nat (j := 0) rfl, hk m (by rw [if_neg last])⟩
        refine node _ fun v hv => ?_
        have m1 := lin.one
        -- free
        refine ⟨_, rfl, _, rfl, _, _, rfl, rfl, .inr ⟨_, rfl, _, _, rfl, rfl, ?_⟩⟩
        have efree : ∀ b : Bool, b = decide ((v : Int) > 0) → (V.int ((m : Int) + (if b = true then 1 else 0)) = V.int ((if j + 1 = (red w).length then m else m + 1 : Nat) : Int)) := fun b hb => by
          by_cases last : j + 1 = (red w).length
          · rw [if_pos last] at hv
            rw [if_pos last, hb, hv, if_neg (by decide)]
            congr 1
          · rw [if_neg last] at hv
            rw [if_neg last, hb, hv, if_pos (decide_eq_true (by omega))]
            congr 1
        show tSeq _ _ _ [some (.ref a), some (.ref r), some (V.int ((m : Int) + (if decide ((v : Int) > 0) = true then 1 else 0))), _, _, _, _, _, _] _
        rw [efree _ rfl]
        generalize hfree : (if j + 1 = (red w).length then m else m + 1) = m' at nx
        refine ⟨_, rfl, .inl ⟨rfl, _, SqL.of hr6⟩, ?_⟩
        refine ⟨_, rfl, _, rfl, _, rfl, (by show 3 ≤ sizeLine; decide), fun t1 nt1 => ?_⟩
        have s7 := s6.trans (same_new (o := .tup [.str (ch c), .int (src : Nat), .int (v : Nat)]) nt1)
        have hr7 := same_new (o := .tup [.str (ch c), .int (src : Nat), .int (v : Nat)]) nt1 _ _ hr6
        have er7 := er6.to (samT (same_new (o := .tup [.str (ch c), .int (src : Nat), .int (v : Nat)]) nt1))
        have ht7 := upd_same (H := H6) (a := t1) (o := .tup [.str (ch c), .int (src : Nat), .int (v : Nat)])
        generalize upd H6 t1 (.tup [.str (ch c), .int (src : Nat), .int (v : Nat)]) = H7 at s7 hr7 er7 ht7
        refine ⟨_, rfl, c, rfl, hcs, _, rfl, _, rfl, (by show 3 ≤ sizeLine; decide), fun t2 nt2 => ?_⟩
        have s8 := s7.trans (same_new (o := .tup [.str (ch (inv c)), .int (v : Nat), .int (src : Nat)]) nt2)
        have hr8 := same_new (o := .tup [.str (ch (inv c)), .int (v : Nat), .int (src : Nat)]) nt2 _ _ hr7
        have er8 := er7.to (samT (same_new (o := .tup [.str (ch (inv c)), .int (v : Nat), .int (src : Nat)]) nt2))
        have ht8 := same_new (o := .tup [.str (ch (inv c)), .int (v : Nat), .int (src : Nat)]) nt2 _ _ ht7
        have hu8 := upd_same (H := H7) (a := t2) (o := .tup [.str (ch (inv c)), .int (v : Nat), .int (src : Nat)])
        generalize upd H7 t2 (.tup [.str (ch (inv c)), .int (v : Nat), .int (src : Nat)]) = H8 at s8 hr8 er8 ht8 hu8
        refine ⟨(by show 2 ≤ sizeLine; decide), fun l2 nl2 => ?_⟩
        have s9 := s8.trans (same_new (o := .lst [.ref t1, .ref t2]) nl2)
        have hr9 := same_new (o := .lst [.ref t1, .ref t2]) nl2 _ _ hr8
        have er9 := er8.to (samT (same_new (o := .lst [.ref t1, .ref t2]) nl2))
        have ht9 := same_new (o := .lst [.ref t1, .ref t2]) nl2 _ _ ht8
        have hu9 := same_new (o := .lst [.ref t1, .ref t2]) nl2 _ _ hu8
        have hl9 := upd_same (H := H8) (a := l2) (o := .lst [.ref t1, .ref t2])
        generalize upd H8 l2 (.lst [.ref t1, .ref t2]) = H9 at s9 hr9 er9 ht9 hu9 hl9
        refine ⟨_, rfl, c, _, rfl, rfl, .inr ⟨_, rfl, ?_⟩⟩
        have edge : ∀ (k : VK), (∀ tb, H9 tb = some (.tup (edV (edgeOf c src v))) → k (.ref tb) H9) → ∃ p xs i y, V.ref l2 = .ref p ∧ V.int (if decide (c ∈ (("ABCD" : Str)).cps.toList) = true then 1 else 0) = .int i ∧ SqL K H9 p xs ∧ atI xs i = some y ∧ k y H9 := fun k hk => by
          rw [upper_step hcs]
          by_cases up : c < 96
          · rw [if_pos (decide_eq_true up)]
            exact ⟨l2, _, 1, .ref t2, rfl, rfl, SqL.of hl9, atI_nat (j := 1) rfl, hk t2 (by unfold edgeOf; rw [if_pos up]; exact hu9)⟩
          · rw [if_neg (by rw [decide_eq_false up]; decide)]
            exact ⟨l2, _, 0, .ref t1, rfl, rfl, SqL.of hl9, atI_nat (j := 0) rfl, hk t1 (by unfold edgeOf; rw [if_neg up]; exact ht9)⟩
        refine edge _ fun tb htb => ?_
        refine ⟨r, LE, _, rfl, rfl, hr9, Nat.lt_of_le_of_lt (show LE.length ≤ 1000 by rw [er.1]; omega) (by decide), ?_⟩
        have htr : ∀ b ys, H9 b = some (.tup ys) → upd H9 r (.lst (LE ++ [.ref tb])) b = some (.tup ys) := fun b ys h => by
          rw [upd_ne (ne_of h hr9 (by intro z; cases z))]; exact h
        have er10 : ERel (upd H9 r (.lst (LE ++ [.ref tb]))) (LE ++ [.ref tb]) (L ++ [edgeOf c src v]) := (er9.snoc htb).to htr
        refine ⟨_, rfl, _, _, m', v, _, _, _, rfl, same_upd s9 nr, upd_same, er10, ?_, fun z => ?_, ?_, ?_⟩
        · rw [← hv] at nx
          exact nx
        · rw [hv, if_pos z]
        · rw [← hfree]; split <;> omega
        · rw [List.length_append]; show L.length + 1 ≤ _; omega
      · obtain ⟨LE, L, m, src, z4, z5, z6, rfl, s4, hr4, er, lin, src0, mb, lb⟩ := p
        rw [tx_size] at lin src0 mb lb
        refine ⟨LE, L, m, _, _, _, _, _, _, rfl, s4, hr4, er, ?_, lin.under, lin.one, by omega, by omega⟩
        rw [tk, List.map_append]
        exact lin.done (src0 rfl)
    · obtain ⟨LE, L, n, z1, z2, z3, z4, z5, z6, rfl, s2, hr2, er, led, un, n1, nb, lb⟩ := p
      rw [hwl] at led nb lb
      rw [List.take_length] at led
      exact ⟨_, rfl, q _ r LE L n s2 hr2 er led un (by omega) (by omega)⟩
end
end K73
set_option Elab.async false
set_option linter.all false
set_option maxRecDepth 100000
set_option maxHeartbeats 2000000
/-! K73LawB: the law's look for a conflict. -/
namespace K73
open PySem PySem.Spec PyProof.Rows L2
def TL (kT : List (List L2.Key × V)) (T : Gr) : Prop := ∀ u c, (∀ v, T u c = some v → valV kT (key u c) = some (.int (v : Nat))) ∧ (T u c = none → valV kT (key u c) = none)
theorem TL.put {kT : List (List L2.Key × V)} {T : Gr} (r : TL kT T) (u c v : Nat) : TL (putK kT (key u c) (.int (v : Nat))) (setG T u c v) := fun x d => by
  rw [valV_put]
  by_cases z : x = u ∧ d = c
  · obtain ⟨rfl, rfl⟩ := z
    rw [if_pos rfl, setG_same]
    exact ⟨fun w e => by rw [Option.some.inj e], fun e => by cases e⟩
  · rw [if_neg (fun e => z (key_inj e)), setG_ne z]
    exact r x d
theorem TL.val {kT : List (List L2.Key × V)} {T : Gr} (r : TL kT T) (u c : Nat) : valV kT (key u c) = (T u c).map fun v => V.int (v : Nat) := by
  cases e : T u c with
  | none => exact (r u c).2 e
  | some v => exact (r u c).1 v e
def spConflict (K : PySem.W.Frag) : Sp := fun vs H Q _ => ∃ (a : Addr) (LE : List V) (L : List Ed), vs = [.ref a] ∧ SqL K H a LE ∧ ERel H LE L ∧ (∀ e ∈ L, isStep e.1) ∧ L.length ≤ 104 ∧
  ∀ H' r d pv, Same H H' → H' r = some (.tup [.ref d, pv]) → ((∃ kT T, pv = .non ∧ H' d = some (.dT kT) ∧ TL kT T ∧ TOf T L) ∨
    (∃ (pr : Addr) (x y : Nat), pv = .ref pr ∧ H' pr = some (.lst [.int (x : Nat), .int (y : Nat)]) ∧ x < y ∧ occ L x = true ∧ occ L y = true ∧ ∀ (D : Gr) (h : Nat → Nat), InvCl D → CompE D h L → h x = h y)) → Q (.ref r) H'
/-- the two entries that an edge makes -/
def eu (u v : Nat) (j : Nat) : Nat := if j = 0 then u else v
def ec (c : Nat) (j : Nat) : Nat := if j = 0 then c else inv c
def eT (T : Gr) (u c v : Nat) : Nat → Gr
  | 0 => T
  | 1 => setG T u c v
  | _ => setG (setG T u c v) v (inv c) u
theorem eT_succ {T : Gr} {u c v : Nat} : ∀ {j : Nat}, j < 2 → eT T u c v (j + 1) = setG (eT T u c v j) (eu u v j) (ec c j) (eu v u j)
  | 0, _ => rfl
  | 1, _ => rfl
  | j + 2, h => by omega
theorem occ_of {L : List Ed} {e : Ed} (h : e ∈ L) : occ L e.2.1 = true ∧ occ L e.2.2 = true := ⟨occ_iff.mpr ⟨e, h, .inl rfl⟩, occ_iff.mpr ⟨e, h, .inr rfl⟩⟩
theorem conf {T : Gr} {L L0 : List Ed} {u c v : Nat} (t : TOf T L0) (hs : ∀ e ∈ L, isStep e.1) (sub : ∀ e ∈ L0, e ∈ L) (he : (c, u, v) ∈ L) {j k : Nat} (hj : j < 2) (e : eT T u c v j (eu u v j) (ec c j) = some k) :
    occ L k = true ∧ occ L (eu v u j) = true ∧ ∀ (D : Gr) (h : Nat → Nat), InvCl D → CompE D h L → h k = h (eu v u j) := by
  have hc := hs _ he
  have oe := occ_of he
  have of_T : ∀ {x d y}, T x d = some y → occ L y = true ∧ ∀ (D : Gr) (h : Nat → Nat), InvCl D → CompE D h L → D (h x) d = some (h y) := fun {x d y} q => by
    refine ⟨?_, fun D h hD hc => t.comp (fun e he => hs e (sub e he)) hD (fun e he => hc e (sub e he)) q⟩
    rcases t.only x d y q with z | ⟨c', _, z⟩
    · exact (occ_of (sub _ z)).2
    · exact (occ_of (sub _ z)).1
  have hcase : j = 0 ∨ j = 1 := by omega
  rcases hcase with rfl | rfl
  · have e : T u c = some k := e
    obtain ⟨o1, o2⟩ := of_T e
    refine ⟨o1, oe.2, fun D h hD hcm => ?_⟩
    have z := o2 D h hD hcm
    have z2 : D (h u) c = some (h v) := hcm _ he
    rw [z2] at z
    exact (Option.some.inj z).symm
  · have e : setG T u c v v (inv c) = some k := e
    rw [setG_ne (fun z => inv_ne hc z.2)] at e
    obtain ⟨o1, o2⟩ := of_T e
    refine ⟨o1, oe.1, fun D h hD hcm => ?_⟩
    have z := o2 D h hD hcm
    have z2 : D (h v) (inv c) = some (h u) := hD _ _ _ hc (hcm _ he)
    rw [z2] at z
    exact (Option.some.inj z).symm
section
variable {P : Program} {w : World} {K : PySem.W.Frag} {mg : Str → Option Value} {base : Heap} {f : Addr} {fd : FuncData}
def nsConflict : List Str := ["_law_edges", "_law_targets", "_law_letter", "_law_source", "_law_node", "_law_key", "_law_value", "_law_known"]
theorem scConflict : FnScope nsConflict ["_law_edges"] (defScope lConflict) := ⟨rfl, rfl, rfl, by decide +kernel, rfl, by decide +kernel, by decide +kernel⟩
theorem ok_conflict (F : FnP K "_law_conflict" lConflict f fd) (B : Bi mg) (ZB : Has P w K mg base 1 "_law_back" ["_law_step"] spBack) : FnOk P w K mg base CX0 2 f fd ["_law_edges"] (spConflict K) := by
  refine F.ok scConflict (fun vs H Q E h => ?_) (fun cdv A outer s H vs Q E hr h => ⟨_, PSs.nox (pss_cons (ps_set (i := 1) scConflict.nd rfl (Or.inl rfl) pe_dnewT)
    (pss_cons (ps_for PassesOwn.never rfl (pi_list (pv 0)) (pg_tup rfl (pgs_cons (pg_name (i := 2) scConflict.nd rfl (Or.inl rfl)) (pgs_cons (pg_name (i := 3) scConflict.nd rfl (Or.inl rfl)) (pgs_cons (pg_name (i := 4) scConflict.nd rfl (Or.inl rfl)) pgs_nil))))
      (pss_one (ps_for PassesOwn.never rfl (pi_list (pe_lst (pa_cons (pe_tup (pa_cons (pe_tup (pa_cons (pv 3) (pa_cons (pv 2) pa_nil))) (pa_cons (pv 4) pa_nil))) (pa_cons (pe_tup (pa_cons (pe_tup (pa_cons (pv 4) (pa_cons (pe_h ZB hr (pa_cons (pv 2) pa_nil)) pa_nil))) (pa_cons (pv 3) pa_nil))) pa_nil))))
          (pg_tup rfl (pgs_cons (pg_name (i := 5) scConflict.nd rfl (Or.inl rfl)) (pgs_cons (pg_name (i := 6) scConflict.nd rfl (Or.inl rfl)) pgs_nil)))
        (pss_cons (ps_set (i := 7) scConflict.nd rfl (Or.inl rfl) (pe_dget2 (hu_of hr) (pv 1) (pv 5) (pv 6) ⟨by rfl, by rfl, by rfl, by rfl⟩))
        (pss_cons (ps_if (pt_cmpR op_ne (pv 7) (pv 6) (nomark _)) (pss_one (ps_ret (pe_tup (pa_cons (pv 1) (pa_cons (pe_lst (pa_cons (pe_callB (call_min2 rfl) rfl B.min (by decide +kernel) (pa_cons (pv 7) (pa_cons (pv 6) pa_nil))) (pa_cons (pe_callB (call_max2 rfl) rfl B.max (by decide +kernel) (pa_cons (pv 7) (pa_cons (pv 6) pa_nil))) pa_nil))) pa_nil))))) pss_nil)
        (pss_one (ps_dput (hu_of hr) (pv 1) (pv 5) (pv 6) rfl)))))))
    (pss_one (ps_ret (pe_tup (pa_cons (pv 1) (pa_cons pe_non pa_nil))))))), ?_⟩)
  · obtain ⟨a, LE, L, rfl, _⟩ := h; rfl
  · obtain ⟨a, LE, L, rfl, ha, er, hst, hlen, q⟩ := h
    refine fun d nd => ?_
    have s1 := same_new (o := .dT []) nd
    have e6 : sizeLine = 16777216 := by decide
    refine ⟨_, rfl, a, rfl, ⟨_, s1.seq ha⟩, for_list (K := K) (a := a) (xs := LE) (fun i σ H' => ∃ (kT : List (List L2.Key × V)) (T : Gr) (z1 z2 z3 z4 z5 z6 : Option V), σ = [some (.ref a), some (.ref d), z1, z2, z3, z4, z5, z6] ∧ Same H H' ∧ H' d = some (.dT kT) ∧ TL kT T ∧ TOf T (L.take i) ∧ kT.length ≤ 2 * i)
      ⟨[], _, _, _, _, _, _, _, rfl, s1, upd_same, fun u c => ⟨fun v e => (by cases e), fun _ => rfl⟩, TOf.nil, Nat.le_refl _⟩ (fun i σ H' _ ⟨_, _, _, _, _, _, _, _, _, s, _⟩ => s.seq ha) (fun i x σ H1 hx p => ?_) (fun σ H1 p => ?_)⟩
    · obtain ⟨kT, T, z1, z2, z3, z4, z5, z6, rfl, s2, hd2, tl, tof, kl⟩ := p
      have hi : i < L.length := by rw [← er.1]; exact (List.getElem?_eq_some_iff.mp hx).1
      have eL : L[i]? = some L[i] := List.getElem?_eq_getElem hi
      have mem : L[i] ∈ L := List.mem_of_getElem? eL
      have tk : L.take (i + 1) = L.take i ++ [L[i]] := by rw [List.take_add_one, eL]; rfl
      obtain ⟨b, e1, e2⟩ := er.2 i L[i] eL
      rw [hx] at e1
      cases e1
      generalize hE : L[i] = ed at *
      obtain ⟨c, u, v⟩ := ed
      have hcs : isStep c := hst _ mem
      refine ⟨b, _, rfl, SqT.of (s2 _ _ e2), rfl, _, _, rfl, _, _, rfl, _, _, rfl, rfl, ?_⟩
      -- the list of two entries
      refine ⟨_, rfl, _, rfl, (by show 2 ≤ sizeLine; decide), fun k1 nk1 => ?_⟩
      have t3 := same_new (o := .tup [.int (u : Nat), .str (ch c)]) nk1
      have hk3 := upd_same (H := H1) (a := k1) (o := .tup [.int (u : Nat), .str (ch c)])
      have s3 := s2.trans t3
      have hd3 := t3 _ _ hd2
      refine ⟨_, rfl, (by show 2 ≤ sizeLine; decide), fun p1 np1 => ?_⟩
      generalize upd H1 k1 (.tup [.int (u : Nat), .str (ch c)]) = H3 at s3 hd3 hk3 np1
      have t4 := same_new (o := .tup [.ref k1, .int (v : Nat)]) np1
      have hp4 := upd_same (H := H3) (a := p1) (o := .tup [.ref k1, .int (v : Nat)])
      have s4 := s3.trans t4
      have hd4 := t4 _ _ hd3
      have hk4 := t4 _ _ hk3
      refine ⟨_, rfl, _, rfl, c, rfl, hcs, (by show 2 ≤ sizeLine; decide), fun k2 nk2 => ?_⟩
      generalize upd H3 p1 (.tup [.ref k1, .int (v : Nat)]) = H4 at s4 hd4 hk4 hp4 nk2
      have t5 := same_new (o := .tup [.int (v : Nat), .str (ch (inv c))]) nk2
      have hq5 := upd_same (H := H4) (a := k2) (o := .tup [.int (v : Nat), .str (ch (inv c))])
      have s5 := s4.trans t5
      have hd5 := t5 _ _ hd4
      have hk5 := t5 _ _ hk4
      have hp5 := t5 _ _ hp4
      refine ⟨_, rfl, (by show 2 ≤ sizeLine; decide), fun p2 np2 => ?_⟩
      generalize upd H4 k2 (.tup [.int (v : Nat), .str (ch (inv c))]) = H5 at s5 hd5 hk5 hp5 hq5 np2
      have t6 := same_new (o := .tup [.ref k2, .int (u : Nat)]) np2
      have hr6 := upd_same (H := H5) (a := p2) (o := .tup [.ref k2, .int (u : Nat)])
      have s6 := s5.trans t6
      have hd6 := t6 _ _ hd5
      have hk6 := t6 _ _ hk5
      have hp6 := t6 _ _ hp5
      have hq6 := t6 _ _ hq5
      refine ⟨(by show 2 ≤ sizeLine; decide), fun l nl => ?_⟩
      generalize upd H5 p2 (.tup [.ref k2, .int (u : Nat)]) = H6 at s6 hd6 hk6 hp6 hq6 hr6 nl
      have t7 := same_new (o := .lst [.ref p1, .ref p2]) nl
      have hl7 := upd_same (H := H6) (a := l) (o := .lst [.ref p1, .ref p2])
      have s7 := s6.trans t7
      have hd7 := t7 _ _ hd6
      have hk7 := t7 _ _ hk6
      have hp7 := t7 _ _ hp6
      have hq7 := t7 _ _ hq6
      have hr7 := t7 _ _ hr6
      have dl : l ≠ d := ne_of hl7 hd7 (by intro z; cases z)
      generalize upd H6 l (.lst [.ref p1, .ref p2]) = H7 at s7 hd7 hk7 hp7 hq7 hr7 hl7
      refine ⟨l, rfl, ⟨_, SqL.of hl7⟩, for_list (K := K) (a := l) (xs := [.ref p1, .ref p2]) (fun j σ H' => ∃ (kT : List (List L2.Key × V)) (z4 z5 z6 : Option V), σ = [some (.ref a), some (.ref d), some (.str (ch c)), some (.int (u : Nat)), some (.int (v : Nat)), z4, z5, z6] ∧ (∀ b o, H7 b = some o → b ≠ d → H' b = some o) ∧ H' d = some (.dT kT) ∧
          TL kT (eT T u c v j) ∧ kT.length ≤ 2 * i + j ∧ ∀ j' < j, eT T u c v j' (eu u v j') (ec c j') = none ∨ eT T u c v j' (eu u v j') (ec c j') = some (eu v u j'))
        ⟨kT, _, _, _, rfl, fun b o h _ => h, hd7, tl, kl, fun j' h => by omega⟩ (fun j σ H' _ ⟨_, _, _, _, _, k, _⟩ => SqL.of (k _ _ hl7 dl)) (fun j x σ H8 hj p => ?_) (fun σ H8 p => ?_)⟩
      · obtain ⟨kT, z4, z5, z6, rfl, k8, hd8, tl, kl, was⟩ := p
        have hj2 : j < 2 := (List.getElem?_eq_some_iff.mp hj).1
        have ent : ∃ (p k : Addr), x = .ref p ∧ H8 p = some (.tup [.ref k, .int (eu v u j : Nat)]) ∧ H8 k = some (.tup ((key (eu u v j) (ec c j)).map kV)) := by
          have tup_ne : ∀ {b ys}, H7 b = some (.tup ys) → b ≠ d := fun h => ne_of h hd7 (by intro z; cases z)
          have hcase : j = 0 ∨ j = 1 := by omega
          rcases hcase with rfl | rfl
          · cases hj
            exact ⟨p1, k1, rfl, k8 _ _ hp7 (tup_ne hp7), k8 _ _ hk7 (tup_ne hk7)⟩
          · cases hj
            exact ⟨p2, k2, rfl, k8 _ _ hr7 (tup_ne hr7), k8 _ _ hq7 (tup_ne hq7)⟩
        obtain ⟨pp, kk, rfl, hpp, hkk⟩ := ent
        refine ⟨pp, _, rfl, SqT.of hpp, rfl, _, _, rfl, _, _, rfl, rfl, ?_⟩
        refine ⟨_, rfl, d, rfl, .inr ⟨_, .inl hd8⟩, _, rfl, _, rfl, _, DGet.t (k := key (eu u v j) (ec c j)) hd8 hkk, ?_⟩
        rw [tl.val]
        have cont : (eT T u c v j (eu u v j) (ec c j) = none ∨ eT T u c v j (eu u v j) (ec c j) = some (eu v u j)) → ∀ z6, ∃ (kT' : List (List L2.Key × V)) (z4 z5 z6' : Option V), ([some (.ref a), some (.ref d), some (.str (ch c)), some (.int (u : Nat)), some (.int (v : Nat)), some (.ref kk), some (.int (eu v u j : Nat)), z6] : Sl) = [some (.ref a), some (.ref d), some (.str (ch c)), some (.int (u : Nat)), some (.int (v : Nat)), z4, z5, z6'] ∧
            (∀ b o, H7 b = some o → b ≠ d → upd H8 d (.dT (putK kT (key (eu u v j) (ec c j)) (.int (eu v u j : Nat)))) b = some o) ∧ upd H8 d (.dT (putK kT (key (eu u v j) (ec c j)) (.int (eu v u j : Nat)))) d = some (.dT kT') ∧
            TL kT' (eT T u c v (j + 1)) ∧ kT'.length ≤ 2 * i + (j + 1) ∧ ∀ j' < j + 1, eT T u c v j' (eu u v j') (ec c j') = none ∨ eT T u c v j' (eu u v j') (ec c j') = some (eu v u j') := fun ok z6 => by
          refine ⟨_, _, _, _, rfl, fun b o h n => by rw [upd_ne n]; exact k8 b o h n, upd_same, ?_, Nat.le_trans (length_putK _ _ _) (by omega), fun j' hj' => ?_⟩
          · rw [eT_succ hj2]; exact tl.put _ _ _
          · rcases Nat.lt_succ_iff_lt_or_eq.mp hj' with z | z
            · exact was j' z
            · rw [z]; exact ok
        have kz : kT.length < sizeLine := by rw [e6]; omega
        cases eE : eT T u c v j (eu u v j) (ec c j) with
        | none =>
          refine ⟨_, rfl, _, rfl, rfl, _, rfl, iteFb (by simp) ?_⟩
          exact ⟨_, rfl, _, rfl, _, rfl, d, _, rfl, DPut.t (k := key (eu u v j) (ec c j)) hd8 hkk kz, cont (.inl eE) _⟩
        | some k =>
          by_cases hk : k = eu v u j
          · refine ⟨_, rfl, _, rfl, rfl, _, rfl, iteFb (by simp [hk]) ?_⟩
            exact ⟨_, rfl, _, rfl, _, rfl, d, _, rfl, DPut.t (k := key (eu u v j) (ec c j)) hd8 hkk kz, cont (.inr (by rw [eE, hk])) _⟩
          · refine ⟨_, rfl, _, rfl, rfl, _, rfl, iteTb (by
              have : ¬ V.int (k : Nat) = V.int (eu v u j : Nat) := fun z => hk (by have := V.int.inj z; omega)
              show (!decide (V.int (k : Nat) = V.int (eu v u j : Nat))) = true
              rw [decide_eq_false this]; rfl) ?_⟩
            obtain ⟨o1, o2, o3⟩ := conf tof hst (fun e he => List.mem_of_mem_take he) mem hj2 eE
            refine ⟨_, rfl, _, rfl, _, rfl, _, _, rfl, _, rfl, _, rfl, _, _, rfl, (by show 2 ≤ sizeLine; decide), fun pr npr => ⟨(by show 2 ≤ sizeLine; decide), fun r nr => ?_⟩⟩
            have s8 : Same H H8 := fun b o h => k8 b o (s7 b o h) (ne_of_none h nd)
            refine q _ r d _ ((s8.trans (same_new npr)).trans (same_new nr)) upd_same (.inr ⟨pr, if (eu v u j) < k then eu v u j else k, if (eu v u j) > k then eu v u j else k, rfl, ?_, ?_, ?_, ?_, fun D h hD hc => ?_⟩)
            · rw [same_new nr _ _ upd_same]
              congr 3
              · split <;> split <;> first | rfl | omega
              · congr 1
                split <;> split <;> first | rfl | omega
            · split <;> split <;> omega
            · split <;> assumption
            · split <;> assumption
            · have z := o3 D h hD hc
              split <;> split <;> first | exact z | exact z.symm | omega
      · obtain ⟨kT, z4, z5, z6, rfl, k8, hd8, tl, kl, was⟩ := p
        have s8 : Same H H8 := fun b o h => k8 b o (s7 b o h) (ne_of_none h nd)
        refine ⟨kT, _, _, _, _, _, _, _, rfl, s8, hd8, tl, ?_, kl⟩
        rw [tk]
        exact tof.snoc (was 0 (by show 0 < 2; decide)) (was 1 (by show 1 < 2; decide))
    · obtain ⟨kT, T, z1, z2, z3, z4, z5, z6, rfl, s2, hd2, tl, tof, kl⟩ := p
      rw [er.1, List.take_length] at tof
      refine ⟨_, rfl, (by show 2 ≤ sizeLine; decide), fun r nr => ?_⟩
      have s3 := same_new (o := .tup [.ref d, .non]) nr
      exact q _ r d .non (s2.trans s3) upd_same (.inl ⟨kT, T, rfl, s3 _ _ hd2, tl, tof⟩)
end
end K73
set_option Elab.async false
set_option linter.all false
set_option maxRecDepth 100000
set_option maxHeartbeats 2000000
/-! K73LawC: the law's folding. -/
namespace K73
open PySem PySem.Spec PyProof.Rows L2
def spMerged (K : PySem.W.Frag) : Sp := fun vs H Q _ => ∃ (b pr : Addr) (e : Ed) (x y : Nat), vs = [.ref b, .ref pr] ∧ H b = some (.tup (edV e)) ∧ SqL K H pr [.int (x : Nat), .int (y : Nat)] ∧ ∀ H' r, Same H H' → H' r = some (.tup (edV (mvE x y e))) → Q (.ref r) H'
def spFolded (K : PySem.W.Frag) : Sp := fun vs H Q _ => ∃ (a : Addr) (ws : List (List Nat)), vs = [.ref a] ∧ SqL K H a (words ws) ∧ (∀ w ∈ ws, Steps w ∧ w.length ≤ 8) ∧ ws.length ≤ 13 ∧
  ∀ H' d kT T, Same H H' → H' d = some (.dT kT) → TL kT T → IsFold T (ws.map red) → Q (.ref d) H'
def optV (o : Option Nat) : V := match o with
  | none => .non
  | some v => .int (v : Nat)
def spEnd : Sp := fun vs H Q _ => ∃ (d : Addr) (kT : List (List L2.Key × V)) (T : Gr) (w : List Nat), vs = [.ref d, .str (tx w), .int 0] ∧ H d = some (.dT kT) ∧ TL kT T ∧ Steps w ∧ w.length ≤ 400 ∧ ∀ H', Same H H' → Q (optV (run T 0 w)) H'
theorem run_none {D : Gr} {p : List Nat} {u i : Nat} (e : run D u (p.take i) = none) : run D u (p.take (i + 1)) = none := by
  rw [List.take_add_one, run_append, e]
section
variable {P : Program} {w : World} {K : PySem.W.Frag} {mg : Str → Option Value} {base : Heap} {f : Addr} {fd : FuncData}
def nsMerged : List Str := ["_law_edge", "_law_pair", "_law_ends", "_law_node"]
theorem scMerged : FnScope nsMerged ["_law_edge", "_law_pair"] (defScope lMerged) := ⟨rfl, rfl, rfl, by decide +kernel, rfl, by decide +kernel, by decide +kernel⟩
theorem ok_merged (F : FnP K "_law_merged" lMerged f fd) (B : Bi mg) : FnOk P w K mg base CX0 1 f fd ["_law_edge", "_law_pair"] (spMerged K) := by
  refine F.ok scMerged (fun vs H Q E h => ?_) (fun cdv A outer s H vs Q E hr h => ⟨_, PSs.nox (pss_cons (ps_setLc (i := 2) (own := [("_law_node", 3)]) (g := gName 3) (tt := tYes) rfl scMerged.nd rfl rfl (sw_true rfl rfl rfl (by decide +kernel)) (pi_tup (pe_slice sl_tup (pv 0) (po_some pe_int) po_none)) (blkOk_by (N := nsMerged) (sc := defScope lMerged) (by decide +kernel))
          (fun _ _ _ _ _ => pg_name (i := 3) scMerged.nd rfl (Or.inl rfl)) (fun _ _ _ _ _ => pts_nil)
          (fun _ _ _ _ _ => pe_ix (show IxR _ (rIxL K) from ix_list) (pe_lst (pa_cons (pv 3) (pa_cons (pe_ix (show IxR _ (rIxL K) from ix_list) (pv 1) pe_int (fun _ _ => rfl)) pa_nil))) (pe_callTy call_int1 rfl B.int (by decide +kernel) (pa_cons (pe_cmpR op_eq (pv 3) (pe_ix (show IxR _ (rIxL K) from ix_list) (pv 1) pe_int (fun _ _ => rfl)) (nomark _)) pa_nil)) (fun _ _ => rfl)))
    (pss_one (ps_ret (pe_tup (pa_cons (pe_ix ix_tup (pv 0) pe_int (fun _ _ => rfl)) (pa_cons (pe_ix ix_list (pv 2) pe_int (fun _ _ => rfl)) (pa_cons (pe_ix ix_list (pv 2) pe_int (fun _ _ => rfl)) pa_nil))))))), ?_⟩)
  · obtain ⟨b, pr, e, x, y, rfl, _⟩ := h; rfl
  · obtain ⟨b, pr, ⟨c, u, v⟩, x, y, rfl, hb, hp, q⟩ := h
    refine ⟨_, rfl, 1, rfl, b, _, rfl, SqT.of hb, (by show ¬ (1 = 0 ∧ 3 = 3); decide), fun t nt => ?_⟩
    have ec : cutV (edV (c, u, v)) (some 1) none = [.int (u : Nat), .int (v : Nat)] := rfl
    rw [ec]
    have s1 := same_new (o := .tup [.int (u : Nat), .int (v : Nat)]) nt
    have ht1 := upd_same (H := H) (a := t) (o := .tup [.int (u : Nat), .int (v : Nat)])
    refine ⟨t, rfl, ⟨_, SqT.of ht1⟩, fun D nD => ?_⟩
    generalize upd H t (.tup [.int (u : Nat), .int (v : Nat)]) = H1 at s1 ht1 nD
    refine lc_map walk_tup (fun i => .int (mv x y ([u, v][i]?.getD 0) : Nat)) (by show 2 ≤ sizeLine; decide) (fun H' s' => SqT.of (s' _ _ ht1)) nD (fun i z H2 H3 Q2 hi s2 yy k => ?_) (fun H2 s2 hD => ?_)
    · obtain ⟨rfl, hz⟩ := yy
      have hi2 : i < 2 := hi
      have ez : z = .int ([u, v][i]?.getD 0 : Nat) := by
        have hcase : i = 0 ∨ i = 1 := by omega
        rcases hcase with rfl | rfl <;> (cases hz; rfl)
      subst ez
      generalize ([u, v][i]?.getD 0) = n at *
      have hp2 := (s1.trans s2).seq hp
      refine ⟨rfl, _, rfl, _, rfl, pr, _, 0, .int (x : Nat), rfl, rfl, hp2, atI_nat (j := 0) rfl, (by show 2 ≤ sizeLine; decide), fun l nl => ?_⟩
      have t3 := same_new (o := .lst [.int (n : Nat), .int (x : Nat)]) nl
      have hl3 := upd_same (H := H3) (a := l) (o := .lst [.int (n : Nat), .int (x : Nat)])
      refine ⟨_, rfl, _, rfl, pr, _, 1, .int (y : Nat), rfl, rfl, t3.seq hp2, atI_nat (j := 1) rfl, rfl, .inr ⟨_, rfl, ?_⟩⟩
      by_cases hn : n = y
      · have e : decide (V.int (n : Nat) = V.int (y : Nat)) = true := decide_eq_true (by rw [hn])
        refine ⟨l, _, 1, .int (x : Nat), rfl, ?_, SqL.of hl3, atI_nat (j := 1) rfl, ?_⟩
        · show V.int (if decide (V.int (n : Nat) = V.int (y : Nat)) = true then 1 else 0) = .int 1
          rw [e]; rfl
        · have e2 : mv x y n = x := if_pos hn
          have k2 := k _ t3
          rw [e2] at k2
          exact k2
      · have e : decide (V.int (n : Nat) = V.int (y : Nat)) = false := decide_eq_false (fun z => hn (by have := V.int.inj z; omega))
        refine ⟨l, _, 0, .int (n : Nat), rfl, ?_, SqL.of hl3, atI_nat (j := 0) rfl, ?_⟩
        · show V.int (if decide (V.int (n : Nat) = V.int (y : Nat)) = true then 1 else 0) = .int 0
          rw [e]; rfl
        · have e2 : mv x y n = n := if_neg hn
          have k2 := k _ t3
          rw [e2] at k2
          exact k2
    · have hD' : H2 D = some (.lst [.int (mv x y u : Nat), .int (mv x y v : Nat)]) := hD
      have s3 := s1.trans s2
      refine ⟨_, rfl, b, _, 0, .str (ch c), rfl, rfl, SqT.of (s3 _ _ hb), atI_nat (j := 0) rfl, _, rfl, D, _, 0, _, rfl, rfl, SqL.of hD', atI_nat (j := 0) rfl, _, rfl, D, _, 1, _, rfl, rfl, SqL.of hD', atI_nat (j := 1) rfl, (by show 3 ≤ sizeLine; decide), fun r nr => ?_⟩
      exact q _ r (s3.trans (same_new nr)) upd_same
def nsFolded : List Str := ["_law_paths", "_law_edges", "_law_targets", "_law_pair", "_law_edge"]
theorem scFolded : FnScope nsFolded ["_law_paths"] (defScope lFolded) := ⟨rfl, rfl, rfl, by decide +kernel, rfl, by decide +kernel, by decide +kernel⟩
theorem ok_folded (F : FnP K "_law_folded" lFolded f fd) (ZI : Has P w K mg base 3 "_law_initial" ["_law_paths"] (spInitial K)) (ZC : Has P w K mg base 2 "_law_conflict" ["_law_edges"] (spConflict K)) (ZM : Has P w K mg base 1 "_law_merged" ["_law_edge", "_law_pair"] (spMerged K)) :
    FnOk P w K mg base CX0 4 f fd ["_law_paths"] (spFolded K) := by
  refine F.ok scFolded (fun vs H Q E h => ?_) (fun cdv A outer s H vs Q E hr h => ⟨_, PSs.nox (pss_cons (ps_set (i := 1) scFolded.nd rfl (Or.inl rfl) (pe_h ZI hr (pa_cons (pv 0) pa_nil)))
    (pss_cons (ps_asg (pe_h ZC (hr.mono (by decide)) (pa_cons (pv 1) pa_nil)) (pg_tup rfl (pgs_cons (pg_name (i := 2) scFolded.nd rfl (Or.inl rfl)) (pgs_cons (pg_name (i := 3) scFolded.nd rfl (Or.inr rfl)) pgs_nil))))
    (pss_cons (ps_while PassesOwn.never (pt_cmpR op_notN (pv 3) pe_non (nomark _))
      (pss_cons (ps_setLc (i := 1) (own := [("_law_edge", 4)]) (g := gName 4) (tt := tYes) rfl scFolded.nd rfl rfl (sw_true rfl rfl rfl (by decide +kernel)) (pi_list (pv 1)) (blkOk_by (N := nsFolded) (sc := defScope lFolded) (by decide +kernel))
          (fun _ _ _ _ _ => pg_name (i := 4) scFolded.nd rfl (Or.inl rfl)) (fun _ _ _ _ _ => pts_nil) (fun _ _ _ _ _ => pe_h ZM (hr.mono (by decide)) (pa_cons (pv 4) (pa_cons (pv 3) pa_nil))))
      (pss_one (ps_asg (pe_h ZC (hr.mono (by decide)) (pa_cons (pv 1) pa_nil)) (pg_tup rfl (pgs_cons (pg_name (i := 2) scFolded.nd rfl (Or.inl rfl)) (pgs_cons (pg_name (i := 3) scFolded.nd rfl (Or.inr rfl)) pgs_nil)))))))
    (pss_one (ps_ret (pv 2)))))), ?_⟩)
  · obtain ⟨a, ws, rfl, _⟩ := h; rfl
  · obtain ⟨a, ws, rfl, ha, hws, hlen, q⟩ := h
    refine ⟨_, rfl, a, ws, rfl, ha, hws, hlen, fun H1 le LE L n s1 hle er led un hn hL => ?_⟩
    refine ⟨_, rfl, le, LE, L, rfl, SqL.of hle, er, led.step, hL, fun H2 r d pv s2 hr2 hc => ?_⟩
    refine ⟨r, _, rfl, SqT.of hr2, rfl, _, _, rfl, _, _, rfl, rfl, ?_⟩
    have e6 : sizeLine = 16777216 := by decide
    refine while_m (fun m σ H' => ∃ (le d : Addr) (LE : List V) (L : List Ed) (pv : V) (z : Option V), cnt n L = m ∧ σ = [some (.ref a), some (.ref le), some (.ref d), some pv, z] ∧ Same H H' ∧ H' le = some (.lst LE) ∧ ERel H' LE L ∧ LEd L (ws.map red) ∧ Under L n ∧ L.length ≤ 104 ∧
      ((∃ kT T, pv = .non ∧ H' d = some (.dT kT) ∧ TL kT T ∧ TOf T L) ∨ (∃ (pr : Addr) (x y : Nat), pv = .ref pr ∧ H' pr = some (.lst [.int (x : Nat), .int (y : Nat)]) ∧ x < y ∧ occ L x = true ∧ occ L y = true ∧ ∀ (D : Gr) (h : Nat → Nat), InvCl D → CompE D h L → h x = h y)))
      (cnt n L) ⟨le, d, LE, L, pv, none, rfl, rfl, s1.trans s2, s2 _ _ hle, er.to (samT s2), led, un, hL, hc⟩ ?_
    rintro m σ H3 ⟨le, d, LE, L, pv, z, hm, rfl, s3, hle3, er3, led, un, hL, hc⟩
    rcases hc with ⟨kT, T, rfl, hd, tl, tof⟩ | ⟨pr, x, y, rfl, hpr, hxy, ox, oy, heq⟩
    · refine ⟨_, rfl, rfl, _, rfl, iteFb (by simp) ?_⟩
      exact ⟨_, rfl, q _ d kT T s3 hd tl (tof.fold led)⟩
    · refine ⟨_, rfl, rfl, _, rfl, iteTb (by simp) ⟨_, fun _ _ h => h, ?_⟩⟩
      refine ⟨_, rfl, le, rfl, ⟨_, SqL.of hle3⟩, fun D nD => ?_⟩
      have led2 := led.merge hxy heq
      have yn : y < n := by
        obtain ⟨e, he, h⟩ := occ_iff.mp oy
        have := un e he
        rcases h with h | h <;> omega
      have un2 := un.merge (a := x) (b := y) (by omega)
      have cl := cnt_merge (Nat.ne_of_lt hxy) ox oy yn
      refine lc_it walk_list (fun i H' => Same H3 H' ∧ ∃ acc, H' D = some (.lst acc) ∧ ERel H' acc ((L.take i).map (mvE x y))) ⟨same_new nD, [], upd_same, rfl, fun i e h => by simp at h⟩ (fun i H' _ p => SqL.of (p.1 _ _ hle3)) (fun i v H4 H5 hi p yy => ?_) (fun H4 p => ?_)
      · obtain ⟨rfl, ev⟩ := yy
        obtain ⟨s4, acc, hD, era⟩ := p
        have hi2 : i < L.length := by rw [← er3.1]; exact hi
        have eL : L[i]? = some L[i] := List.getElem?_eq_getElem hi2
        obtain ⟨b, e1, e2⟩ := er3.2 i L[i] eL
        rw [ev] at e1
        cases e1
        refine ⟨rfl, _, rfl, _, rfl, b, pr, L[i], x, y, rfl, s4 _ _ e2, SqL.of (s4 _ _ hpr), fun H6 r6 s6 hr6 => ?_⟩
        have hD6 := s6 _ _ hD
        have hacc : acc.length = i := by rw [era.1, List.length_map, List.length_take]; omega
        have ts : TupS H6 (upd H6 D (.lst (acc ++ [.ref r6]))) := fun b ys h => by
          rw [upd_ne (ne_of h hD6 (by intro z; cases z))]; exact h
        refine ⟨acc, hD6, (by rw [hacc, e6]; omega), same_upd (s4.trans s6) nD, _, upd_same, ?_⟩
        rw [show L.take (i + 1) = L.take i ++ [L[i]] by rw [List.take_add_one, eL]; rfl, List.map_append]
        exact ((era.to (samT s6)).snoc hr6).to ts
      · obtain ⟨s4, acc, hD, era⟩ := p
        rw [er3.1, List.take_length] at era
        refine ⟨_, rfl, D, acc, _, rfl, SqL.of hD, era, led2.step, by rw [List.length_map]; exact hL, fun H5 r5 d5 pv5 s5 hr5 hc5 => ?_⟩
        refine ⟨r5, _, rfl, SqT.of hr5, rfl, _, _, rfl, _, _, rfl, rfl, ?_⟩
        refine ⟨cnt n (L.map (mvE x y)), by omega, D, d5, acc, _, pv5, _, rfl, rfl, (s3.trans s4).trans s5, s5 _ _ hD, era.to (samT s5), led2, un2, by rw [List.length_map]; exact hL, hc5⟩
def nsEnd : List Str := ["_law_targets", "_law_path_here", "_law_node", "_law_step"]
def psEnd : List Str := ["_law_targets", "_law_path_here", "_law_node"]
theorem scEnd : FnScope nsEnd psEnd (defScope lEnd) := ⟨rfl, rfl, rfl, by decide +kernel, rfl, by decide +kernel, by decide +kernel⟩
theorem ok_end (F : FnP K "_law_end" lEnd f fd) : FnOk P w K mg base CX0 1 f fd psEnd spEnd := by
  refine F.ok scEnd (fun vs H Q E h => ?_) (fun cdv A outer s H vs Q E hr h => ⟨_, PSs.nox (pss_cons (ps_for PassesOwn.never rfl (pi_str (pv 1)) (pg_name (i := 3) scEnd.nd rfl (Or.inl rfl))
      (pss_one (ps_if (pt_cmpR op_notN (pv 2) pe_non (nomark _)) (pss_one (ps_set (i := 2) scEnd.nd rfl (Or.inl rfl) (pe_dget1 (hu_of hr) (pv 0) (pe_tup (pa_cons (pv 2) (pa_cons (pv 3) pa_nil))) ⟨by rfl, by rfl, by rfl, by rfl⟩))) pss_nil)))
    (pss_one (ps_ret (pv 2)))), ?_⟩)
  · obtain ⟨d, kT, T, w, rfl, _⟩ := h; rfl
  · obtain ⟨d, kT, T, w, rfl, hd, tl, hw, hwl, q⟩ := h
    refine ⟨_, rfl, _, rfl, for_it walk_str (fun i σ H' => ∃ z, σ = [some (.ref d), some (.str (tx w)), some (optV (run T 0 (w.take i))), z] ∧ Same H H') ⟨none, rfl, Same.refl H⟩ (fun _ _ _ _ _ => trivial) (fun i x σ H1 H2 hi p y => ?_) (fun σ H1 p => ?_)⟩
    · obtain ⟨z, rfl, s1⟩ := p
      obtain ⟨rfl, c, hc, rfl⟩ := y
      rw [tx_get] at hc
      rw [ch_ref]
      cases e : run T 0 (w.take i) with
      | none =>
        refine ⟨_, rfl, rfl, _, rfl, iteFb (by simp [optV]) ?_⟩
        exact ⟨_, by rw [run_none e]; rfl, s1⟩
      | some u =>
        refine ⟨_, rfl, rfl, _, rfl, iteTb (by simp [optV]) ?_⟩
        refine ⟨_, rfl, d, rfl, .inr ⟨_, .inl (s1 _ _ hd)⟩, _, rfl, _, rfl, (by show 2 ≤ sizeLine; decide), fun k nk => ?_⟩
        have t2 := same_new (o := .tup [.int (u : Nat), .str (ch c)]) nk
        refine ⟨_, DGet.t (k := key u c) (t2 _ _ (s1 _ _ hd)) upd_same, ?_⟩
        refine ⟨some (.str (ch c)), ?_, s1.trans t2⟩
        rw [run_take_next hc e, tl.val]
        cases T u c <;> rfl
    · obtain ⟨z, rfl, s1⟩ := p
      rw [tx_size, List.take_length]
      exact ⟨_, rfl, q _ s1⟩
end
end K73
set_option Elab.async false
set_option linter.all false
set_option maxRecDepth 100000
set_option maxHeartbeats 4000000
/-! K73Exc: an own exception over any built-in one, with an __init__ that calls the base's and stores. -/
namespace K73
open PySem PySem.Spec PyProof.Rows L2
/-- the class at C stands over the built-in exception B -/
structure OwnX (K : PySem.W.Frag) (C : Addr) (newId : String) (bmB : List Value) : Prop where
  ini : PySem.W.excInitIn K C bmB newId = true
  ovr : PySem.W.excOver K C bmB = true
  hd : PySem.W.hasDictIn K C = true
  sa : PySem.W.findIn K (.ref C) "__setattr__" = some (some (.builtin "object.__setattr__"))
  exC : PySem.W.subIn K (.ref C) (.type "BaseException") = some true
  tyC : PySem.W.typeIn K (.ref C) = some (.type "type")
  kC : PySem.W.keepIn K (.ref C) = true
theorem any_get {α : Type} {o : Option α} {f : α → Bool} (h : o.any f = true) : ∃ a, o = some a ∧ f a = true := by
  cases o with
  | none => cases h
  | some a => exact ⟨a, rfl, h⟩
section
variable {X : Cx} {pins : List (Addr × Obj)} {σ : Sl} {H : Hp} {s : Shared} {a C : Addr} {f : Str} {y : V} {u : Value} {E : Value → Shared → Prop} {A : Around} {B newId initId : String} {bmB : List Value}
/-- the first attribute of an exception that is being made: its dict is made -/
theorem first_store {Q : Unit → Shared → Prop} (SF : StoreFacts B bmB "object.__setattr__" "object") (T : OwnX X.K C newId bmB) (I : Inv X pins σ H s) (e : H a = some (exo a C none)) (hno : NoAttr X.K C f) (ry : L2.RelV y u)
    (h : ∀ dx s', H dx = none → dx ≠ a → Inv X pins σ (upd (upd H dx (exd dx [(f, y)])) a (exo a C (some dx))) s' → Q () s') : wpAny (model X.prog X.w) A (setAttr (.ref a) f u) Q E s := by
  obtain ⟨t1, ho⟩ := exo_at I.hok e
  have as_ : a < s.heap.objs.size := Heap.lt_size ho
  refine PySem.W.set_plain I.kIn (od := none) ⟨ho, rfl, rfl, trivial⟩ T.sa ?_
  refine PySem.W.osa_openX (od := none) SF I.kIn ⟨ho, rfl, rfl, trivial⟩ T.ovr hno.taker fun b => ?_
  obtain ⟨cd, hcd, hh⟩ := any_get T.hd
  refine wpAny_bind (wpAny_pure (wpAny_bind (PySem.W.instanceDict_exc (c2 := .none) ho (PySem.W.looks_clsIn I.kIn hcd) hh ?_)))
  -- the three steps: the dict is laid, the exception points to it, the entry is stored
  have fr : H s.heap.objs.size = none := I.hok.fresh (Nat.le_refl _)
  have ns0 : (s.heap.push { cls := .type "dict", data := .dict #[] 0 }).Ns s.heap.objs.size (fun _ => none) := ⟨_, #[], _, Heap.get?_push_size _ rfl, rfl, fun e he => absurd he (by simp), fun _ => rfl⟩
  have ne : s.heap.objs.size ≠ a := Nat.ne_of_gt as_
  have I1 : Inv X pins σ (upd H s.heap.objs.size (exd s.heap.objs.size [])) { s with heap := s.heap.push { cls := .type "dict", data := .dict #[] 0 }, toks := s.toks + 1 } :=
    I.laid (fun b o q => Heap.get?_push_of_some _ q) (Nat.le_refl _) (exd_ok (Heap.Ns1.of_empty ns0) fun _ => True.intro)
  have ho1 : (s.heap.push { cls := .type "dict", data := .dict #[] 0 }).get? a = some { cls := .ref C, dict := none, data := .fields #[.ref t1, .none, .none, .none, .bool false, .none] } := Heap.get?_push_of_some _ ho
  have ho2 := Heap.get?_update_self (fun o : Obj => { o with dict := some s.heap.objs.size }) ho1 rfl
  have I2 := I1.write (t' := s.toks + 1) (x := a) (e := a) (o := exo a C (some s.heap.objs.size)) (h' := (s.heap.push { cls := .type "dict", data := .dict #[] 0 }).update a fun o => { o with dict := some s.heap.objs.size })
    (by rw [upd_ne ne.symm, e]; exact True.intro) (.inl rfl) (fun b o hb q => (Heap.get?_update_other _ _ (Ne.symm hb)).trans q) ⟨_, ho2⟩ (exo_ok ho2)
  have ns2 : ((s.heap.push { cls := .type "dict", data := .dict #[] 0 }).update a fun o => { o with dict := some s.heap.objs.size }).Ns s.heap.objs.size (fun _ => none) := by
    obtain ⟨o, es, ep, q1, q2⟩ := ns0
    exact ⟨o, es, ep, (Heap.get?_update_other _ _ ne.symm).trans q1, q2⟩
  refine PySem.HandSPX.store_in_new ns2 fun h' tk' hn hsb => ?_
  have I3 := I2.write (t' := tk') (x := s.heap.objs.size) (e := s.heap.objs.size) (o := exd s.heap.objs.size [(f, y)]) (h' := h') (by rw [upd_ne ne, upd_same]; exact True.intro) (.inl rfl) (fun b o hb q => (hsb.2 b hb).trans q)
    (by obtain ⟨o, _, _, q, _⟩ := hn; exact ⟨o, q⟩) (exd_ok hn (relO_put (fs := []) ry fun g => True.intro))
  have eH : upd (upd (upd H s.heap.objs.size (exd s.heap.objs.size [])) a (exo a C (some s.heap.objs.size))) s.heap.objs.size (exd s.heap.objs.size [(f, y)]) = upd (upd H s.heap.objs.size (exd s.heap.objs.size [(f, y)])) a (exo a C (some s.heap.objs.size)) := by
    funext b
    by_cases b1 : b = a
    · subst b1
      rw [upd_ne ne.symm, upd_same, upd_same]
    · by_cases b2 : b = s.heap.objs.size
      · subst b2
        rw [upd_same, upd_ne ne, upd_same]
      · rw [upd_ne b2, upd_ne b1, upd_ne b2, upd_ne b1, upd_ne b2]
  rw [eH] at I3
  exact h _ _ fr ne I3
/-- B.__init__(self, ..) -/
theorem base_init {us : List Value} {Q : Value → Shared → Prop} (FB : ExcBaseFacts B newId initId bmB) (T : OwnX X.K C newId bmB) (I : Inv X pins σ H s) (e : H a = some (exo a C none)) (hl : us.length ≤ sizeLine) (h : ∀ s', Inv X pins σ H s' → Q .none s') :
    wpAny (model X.prog X.w) A (call (.builtin initId) (.ref a :: us)) Q E s := by
  obtain ⟨nm, N, qn, bs, bm, hdct, sn, sub, ab, col, dd, k0, k1, k2, k3, k5, hC, hT⟩ := PySem.W.excInit_of I.kIn T.ini
  obtain ⟨t1, ho⟩ := exo_at I.hok e
  obtain ⟨hp, g, d, t, os⟩ := s
  refine wpAny_call (PySem.HandSPX.init_base FB hT hC ho hl fun h' t2 k hx => ?_)
  have J := I.write (t' := t) (x := a) (e := a) (o := exo a C none) (by rw [e]; exact True.intro) (.inl rfl) k ⟨_, hx⟩ (exo_ok hx)
  have same : upd H a (exo a C none) = H := funext fun b => by
    by_cases hb : b = a
    · rw [hb, upd_same, e]
    · rw [upd_ne hb]
  rw [same] at J
  exact h _ J
end
/-! ### readings and rules -/
def tBase (K : PySem.W.Frag) (newId : String) (bmB : List Value) (ta : TA) : TE := fun σ H Q => ta σ H fun vs H1 => ∃ (a C : Addr) (ws : List V), vs = .ref a :: ws ∧ ws.length ≤ 1000 ∧ OwnX K C newId bmB ∧ H1 a = some (exo a C none) ∧ Q .non H1
def tFirst (K : PySem.W.Frag) (newId : String) (bmB : List Value) (f : Str) (to te : TE) : TS := fun D σ H => te σ H fun y H1 => to σ H1 fun x H2 => ∃ a C : Addr, x = .ref a ∧ OwnX K C newId bmB ∧ NoAttr K C f ∧ H2 a = some (exo a C none) ∧
  ∀ dx, H2 dx = none → dx ≠ a → D.nx σ (upd (upd H2 dx (exd dx [(f, y)])) a (exo a C (some dx)))
section
variable {X : Cx} {B newId initId : String} {bmB : List Value} {x f : Str} {o e : Expr} {es : List Expr} {to te : TE} {ta : TA} {p p' p1 p2 pos : Pos}
theorem pe_base {pl : Sem Bool} (FB : ExcBaseFacts B newId initId bmB) (hg : Gl X x) (hm : X.mg x = none) (hv : bootBuiltins x = some (.type B)) (hy : typeOf (.type B) = pure (.type "type")) (hst : Manifest.isStub B = false) (hnd : PySem.W.handedIn (.builtin initId) = true)
    (vV : PySem.W.findCls X.K (.type B) (.type "type") "__init__" = some (.val (.builtin initId))) (ha : PA X (e :: es) ta) (hn : x ≠ "__name__" := by decide) (hdb : (x == ("__debug__" : Str)) = false := by decide)
    (hc : eval (.Call (.Attribute (.Name x p1) "__init__" p2) (e :: es) [] pos) X.env = (do
      let ov ← eval (.Name x p1) X.env
      standAt p2.atName
      let (f, first) ← holding [ov] (getMethod ov "__init__" pl)
      callWith pos f first (backTo pos (starEach (e :: es) X.env)) (backToKw pos (keywordEach [] X.env))) := by rfl)
    (he : starEach (e :: es) X.env = (false, eval e X.env) :: starEach es X.env := by rfl) (hpl : (backTo pos (starEach es X.env)).any (·.1) = false := by rfl) :
    PE X (.Call (.Attribute (.Name x p1) "__init__" p2) (e :: es) [] pos) (tBase X.K newId bmB ta) := by
  refine ⟨fun pins s σ H Q I h => PySem.W.methodCall_KW (ld_blt I hg hm hv ?_ hn hdb) hc⟩
  obtain ⟨m, fr⟩ := I.fr
  refine PySem.W.method_type fr I.ok.mod.kin hy hst vV hnd ?_
  refine PyProof.Rows.callWith_method1 (thn (ha.run pos pins _ σ H _ (I.tok _) h) fun us s1 ⟨vs, H1, I1, r1, a, C, ws, ev, hl, T, ea, q⟩ => ?_) he hpl
  subst ev
  cases r1 with
  | @cons _ u0 _ ur ra rr =>
    obtain rfl : u0 = Value.ref a := ra
    refine base_init FB T I1 ea ?_ fun s' J => ⟨.non, H1, J, rfl, q⟩
    rw [← Paired.length rr, sizeLine_eq]
    omega
theorem ps_first (SF : StoreFacts B bmB "object.__setattr__" "object") (ho : PE X o to) (he : PE X e te) (hs : swapsWith e (some (.Attribute o f p')) pos.line X.env = pure false := by rfl) : PS X (.Assign [.Attribute o f p'] e pos) (tFirst X.K newId bmB f to te) := by
  refine ⟨fun pins s σ H D I h => plainObj_wpAny_Assign_Attribute (thn (he.run pins s σ H _ I h) fun v s1 ⟨y, H1, I1, r1, q1⟩ => thn (ho.run pins s1 σ H1 _ I1 q1) fun u s2 ⟨x, H2, I2, r2, a, C, ex, T, hno, ea, q⟩ => ?_) hs⟩
  subst ex
  obtain rfl : u = Value.ref a := r2
  exact first_store SF T I2 ea hno r1 fun dx s' n ne J => ⟨σ, _, J, q dx n ne⟩
/-- C(e, ..): the exception is made, __init__ keeps its promise -/
theorem pmk_own2 {C fI : Addr} {k : Nat} {fd : FuncData} {ps : List Str} {sp : Sp} (FB : ExcBaseFacts B newId initId bmB) (T : OwnX X.K C newId bmB) (iC : PySem.W.findIn X.K (.ref C) "__init__" = some (some (.ref fI))) (tI : PySem.W.typeIn X.K (.ref fI) = some (.type "function"))
    (F1 : FnOk X.prog X.w X.K X.mg X.base CX0 k fI fd ps sp) (hr : Room (k + 1) X.A) (hb : Binds X.K fd ps []) (hg : Gl X x) (hm : X.mg x = some (.ref C)) (ha : PA X (e :: es) ta)
    (hdb : (x == ("__debug__" : Str)) = false := by decide) (he : starEach (e :: es) X.env = (false, eval e X.env) :: starEach es X.env := by rfl) (hpl : (backTo pos (starEach es X.env)).any (·.1) = false := by rfl) :
    PMk X (.Call (.Name x p) (e :: es) [] pos) (tMkO C sp [] ta) := by
  intro pins s σ H Q I h
  refine wpAny_Call_Name_kw (ld_glob I hg hm ?_ hdb)
  refine PySem.W.callWith_K (h₀ := X.base) I.ok.mod.kin T.kC (thn (ha.run pos pins s σ H _ I h) fun us s1 ⟨vs, H1, I1, r1, hz, q1⟩ => ⟨I1.kIn, ?_⟩) he hpl
  show wpAny _ _ (call (.ref C) us) _ _ _
  obtain ⟨nm, N, qn, bs, bm, hdct, sn, sub, ab, col, dd, k0, k1, k2, k3, k5, hC, hT⟩ := PySem.W.excInit_of I1.kIn T.ini
  obtain ⟨hp, g, dr, tk, os⟩ := s1
  have up : hp.objs.size ≤ hp.objs.size + 1 := Nat.le_succ _
  have hq := q1 (hp.objs.size + 1) (I1.hok.fresh up)
  have kk : ∀ b o, hp.get? b = some o → ((hp.push (PySem.W.kdv_tup us)).push (PySem.HandSPX.excO C hp.objs.size)).get? b = some o := fun b o z => Heap.get?_push_of_some _ (Heap.get?_push_of_some _ z)
  have at_ : ((hp.push (PySem.W.kdv_tup us)).push (PySem.HandSPX.excO C hp.objs.size)).get? (hp.objs.size + 1) = some (PySem.HandSPX.excO C hp.objs.size) := by heap_get
  have I2 : Inv X pins σ (upd H1 (hp.objs.size + 1) (exo (hp.objs.size + 1) C none)) ⟨(hp.push (PySem.W.kdv_tup us)).push (PySem.HandSPX.excO C hp.objs.size), g, dr, tk, os⟩ := I1.laid kk up (exo_ok at_)
  have r2 : Vals (V.ref (hp.objs.size + 1) :: (vs ++ [])) (Value.ref (hp.objs.size + 1) :: us) := by rw [List.append_nil]; exact .cons rfl r1
  have hl : ((Value.ref (hp.objs.size + 1) :: us) ++ []).length = ps.length := by rw [List.append_nil, ← r2.length]; exact F1.len _ _ _ _ hq
  have bd := hb (⟨(hp.push (PySem.W.kdv_tup us)).push (PySem.HandSPX.excO C hp.objs.size), g, dr, tk, os⟩ : Shared) (Value.ref (hp.objs.size + 1) :: us) I2.kIn hl
  rw [List.append_nil] at bd
  have hus : us.length ≤ sizeLine := by rw [← Paired.length r1, sizeLine_eq]; omega
  refine wpAny_call (PySem.HandSPX.call_own FB hT hC (PySem.W.looks_findIn I1.kIn iC) (fun self => PySem.W.bind_fn I1.kIn self tI) hus
    (codeAny_mono (F1.run _ X.stack _ _ ⟨Value.ref (hp.objs.size + 1) :: us, []⟩ (Value.ref (hp.objs.size + 1) :: us) _ _ (fun _ _ _ => False) (hr.make C us []) (I2.env0.make C us []) bd r2 hq) fun r s' z => ?_))
  cases r with
  | error er => exact False.elim z
  | ok fl =>
    cases fl with
    | next => exact False.elim z
    | brk => exact False.elim z
    | cont => exact False.elim z
    | ret u =>
      obtain ⟨v, H2, os2, bare2, un2, hok2, rv, ev, d, fs, ea, ed, hd1, q2⟩ := z
      subst ev
      obtain ⟨h2, g2, d2, t2, os'⟩ := s'
      exact ⟨rv, mk_end (raises_own T.exC T.tyC) I1 up kk un2 hok2 os2 bare2 ea ed hd1 q2⟩
end
end K73
set_option Elab.async false
set_option linter.all false
set_option maxRecDepth 100000
set_option maxHeartbeats 4000000
/-! K73Try: several clauses `except X as n`; methods called with a keyword. -/
namespace K73
open PySem PySem.Spec PyProof.Rows L2
abbrev Suite := Addr → Value → Option Addr → TS
/-- what the clauses ask of an exception; none is let out -/
def wCls (K : PySem.W.Frag) (D : Ends) : List (Value × Nat × Suite) → WX
  | [] => fun _ _ _ _ => False
  | (c, i, ts) :: r => fun cls d σ H => ∃ b, PySem.W.exmOne K cls c = some b ∧
      (b = true → ∀ a, H a = none → ts a cls d { nx := fun σ' H' => D.nx (σ'.set i none) H', rt := D.rt, bk := fun σ' H' => D.bk (σ'.set i none) H', ct := fun σ' H' => D.ct (σ'.set i none) H' } (σ.set i (some (.ref a))) H) ∧
      (b = false → wCls K D r cls d σ H)
inductive ClsOk (X : Cx) : List ExceptHandler → List (Value × Nat × Suite) → Prop
  | nil : ClsOk X [] []
  | cons {x n : Str} {c : Value} {i : Nat} {ts : Suite} {b : Stmt} {bs : List Stmt} {np p : Pos} {hds : List ExceptHandler} {l : List (Value × Nat × Suite)} (hi : X.N[i]? = some n) (hln : X.env.kindOf n = some .local) (hc : Names X x c)
      (go : ∀ (a : Addr) (oe : Obj) (cls : Value) (d : Option Addr) (pn : List (Addr × Obj)), Zc cls d oe → (∃ vs, oe.data = .fields vs) → PSs (X.suite a ((a, oe) :: pn)) (b :: bs) (ts a cls d)) (r : ClsOk X hds l) :
      ClsOk X (.ExceptHandler (some (.Name x np)) (some n) (b :: bs) p :: hds) ((c, i, ts) :: l)
/-- the exception at a is in the air, over the state that σ and H tell -/
structure Air (X : Cx) (pins : List (Addr × Obj)) (σ : Sl) (H : Hp) (a : Addr) (B : Heap) (cls : Value) (d : Option Addr) (s : Shared) : Prop where
  fl : HandSPX.FlyingZ B (X.env :: X.outer) a (Zc cls d) s.heap
  na : H a = none
  nl : a ≠ X.env.locals
  nf : a ∉ X.fs
  on : ∀ h, B.StaysIn h → s.heap.UpToSlots h → Inv X pins σ H { s with heap := h }
section
variable {X : Cx} {pins : List (Addr × Obj)} {σ : Sl} {H : Hp} {a : Addr} {B : Heap} {cls : Value} {d : Option Addr} {s : Shared} {D : Ends} {l : List (Value × Nat × Suite)} {hds : List ExceptHandler}
theorem Air.inv (A : Air X pins σ H a B cls d s) : Inv X pins σ H s := A.on s.heap A.fl.1 (Heap.UpToSlots.refl _)
/-- the clauses, from the first -/
theorem clauses (hN : X.N.Nodup) (hh : ClsOk X hds l) : ∀ s, Air X pins σ H a B cls d s → wCls X.K D l cls d σ H → wpAny (model X.prog X.w) X.A (handleBy (.ref a) X.env hds) (SP X pins D) X.xe s := by
  induction hh with
  | nil => exact fun s _ w => False.elim w
  | @cons x n c i ts b bs np p hds l hi hln hc go r ih =>
    rintro s A ⟨yes, e1, e2, e3⟩
    obtain ⟨oe, vs, he, hz, hd⟩ := A.fl.there
    have I := A.inv
    refine wpAny_handleBy_cons (codeAny_handlers_test ?_) (by intro z; cases z)
    have ty : PySem.W.Looks (model X.prog X.w) s.heap (typeOf (.ref a)) cls := fun _ _ _ _ k q => wpAny_typeOf_ref (k _ _ he) (by rw [hz.1]; exact q)
    have S := I.suite he hd A.na A.nl A.nf
    have named : ∀ {Q : Value → Shared → Prop} {E : Value → Shared → Prop}, Q c s → wpAny (model X.prog X.w) (X.A.mark (some (.ref a))) (eval (.Name x np) X.env) Q E s := fun {Q E} q => by
      rcases hc with ⟨g, db, m | ⟨m, v, nn⟩⟩
      · exact ld_glob (X := X.suite a ((a, oe) :: (X.pn ++ pins))) S g m q db
      · exact ld_blt (X := X.suite a ((a, oe) :: (X.pn ++ pins))) S g m v q nn db
    refine named ((PySem.W.exm_one (M := model X.prog X.w) I.kIn ty e1).here ?_)
    cases yes with
    | false => exact ih s A (e3 rfl)
    | true =>
      refine codeAny_handlers_suite_as (HandSPX.lands_againZ A.fl fun h fl2 up2 => ?_)
      have I2 := A.on h fl2.1 up2
      obtain ⟨oe2, vs2, he2, hz2, hd2⟩ := fl2.there
      refine store_ok (X := X.suite a ((a, oe2) :: (X.pn ++ pins))) (v := .ref a) (I2.suite he2 hd2 A.na A.nl A.nf) hN hi (.inl hln) rfl (fun s3 S3 => ?_) (.inr hln)
      refine wpAny_mono ((go a oe2 cls d (X.pn ++ pins) hz2 ⟨_, hd2⟩).run [] s3 _ H _ S3 (e2 rfl a A.na)) (fun fl s4 q => ?_) fun _ _ z => False.elim z
      cases fl with
      | next => exact let ⟨_, _, J, q⟩ := q; gone_ok (J.unsuite I.ok) hN hi hln fun _ J2 => ⟨_, _, J2, q⟩
      | brk => exact let ⟨_, _, J, q⟩ := q; gone_ok (J.unsuite I.ok) hN hi hln fun _ J2 => ⟨_, _, J2, q⟩
      | cont => exact let ⟨_, _, J, q⟩ := q; gone_ok (J.unsuite I.ok) hN hi hln fun _ J2 => ⟨_, _, J2, q⟩
      | ret u => exact let ⟨_, _, _, J, r, q⟩ := q; gone_ok (J.unsuite I.ok) hN hi hln fun _ J2 => ⟨_, _, _, J2, r, q⟩
end
section
variable {X : Cx} {body : List Stmt} {h₀ : ExceptHandler} {hds : List ExceptHandler} {l : List (Value × Nat × Suite)} {pos : Pos} {tb : WX → TS}
def tTryAs (K : PySem.W.Frag) (tb : WX → TS) (l : List (Value × Nat × Suite)) : TS := fun D σ H => tb (wCls K D l) D σ H
/-- try: body except X as n: .. except Y as m: .. -/
theorem ps_tryAs (hs : X.stack = X.env :: X.outer) (hf : X.env.frame = some X.env.locals) (hN : X.N.Nodup)
    (hb : ∀ (W : WX) (pn : List (Addr × Obj)) (xe : Value → Shared → Prop), Takes (X.tr pn xe) W → PSs (X.tr pn xe) body (tb W)) (hh : ClsOk X (h₀ :: hds) l) : PS X (.Try body (h₀ :: hds) [] [] pos) (tTryAs X.K tb l) := by
  refine ⟨fun pins s σ H D I h => wpAny_Try_except ?_⟩
  have ok := I.ok
  refine wpAny_mono ((hb (wCls X.K D l) (X.pn ++ pins) (fun e s1 => wpAny (model X.prog X.w) X.A (noteFrame e X.env) (fun _ s2 => wpAny (model X.prog X.w) X.A (setFlight e none) (fun _ s3 => wpAny (model X.prog X.w) X.A (handleBy e X.env (h₀ :: hds)) (SP X pins D) X.xe s3) X.xe s2) X.xe s1) ?_).run [] s σ H D (I.toTry _) h) (fun fl s1 q => ?_) (fun _ _ z => z)
  · rintro u s2 ⟨a, B, s0, pn2, σ2, H2, cls, d, rfl, J, nb, up, sky, na, os, ag, w⟩
    have J0 : Inv X pins σ2 H2 s0 := J.ofTry ok
    have frames : X.A.frames = some (X.env :: X.outer) := by rw [ok.frames, hs]
    have sky2 : Sky B (X.env :: X.outer) a (Zc cls d) X.env.locals s2.heap := by rw [← hs]; exact sky
    refine Sky.land Zc.steady frames hf sky2 fun h3 fl3 up3 => clauses hN hh _ ⟨fl3, na, ?_, ?_, fun h st up4 => ?_⟩ w
    · obtain ⟨oe, vs, he, _, hd⟩ := fl3.there
      intro z
      have hm : a ∈ frs (X.env :: X.outer) := List.mem_filterMap.mpr ⟨X.env, List.mem_cons_self, by rw [hf, z]⟩
      obtain ⟨_, o, e, nfs⟩ := fl3.2.2.1.mem hm
      rw [he] at e
      cases e
      exact nfs _ hd
    · obtain ⟨oe, vs, he, _, hd⟩ := fl3.there
      intro z
      obtain ⟨en, h1, h2⟩ := List.mem_filterMap.mp z
      obtain ⟨_, o, e, nfs⟩ := fl3.2.2.1.mem (List.mem_filterMap.mpr ⟨en, List.mem_cons_of_mem _ h1, h2⟩)
      rw [he] at e
      cases e
      exact nfs _ hd
    · exact J0.landed (s' := { s2 with heap := h }) nb st ((up.trans up3).trans up4) os ag
  · cases fl with
    | next => exact let ⟨σ', H', J, q⟩ := q; wpAny_execs_nil ⟨σ', H', J.ofTry ok, q⟩
    | brk => exact let ⟨σ', H', J, q⟩ := q; ⟨σ', H', J.ofTry ok, q⟩
    | cont => exact let ⟨σ', H', J, q⟩ := q; ⟨σ', H', J.ofTry ok, q⟩
    | ret u => exact let ⟨v, σ', H', J, r, q⟩ := q; ⟨v, σ', H', J.ofTry ok, r, q⟩
end
/-! ### o.m(.., user=e) -/
/-- a method whose last parameter is given by its name -/
structure HasK (P : Program) (w : World) (K : PySem.W.Frag) (mg : Str → Option Value) (base : Heap) (CX : CXT) (k : Nat) (C : Addr) (m kw : Str) (n : Nat) (ps : List Str) (sp : Sp) : Prop where
  ex : ∃ (f : Addr) (fd : FuncData), Meth K C m f ∧ (∀ (s : Shared) (us : List Value) (v : Value), us.length = n → BindsTo s fd ⟨us, [(kw, v)]⟩ (ps.zip (us ++ [v]))) ∧ FnOk P w K mg base CX k f fd ps sp
def tMethK (C : Addr) (m : Str) (n : Nat) (sp : Sp) (E : Sl → XK) (ta te : TE) (t : TA) : TE := fun σ H Q => ta σ H fun x H1 => ∃ a dx fs, x = .ref a ∧ H1 a = some (.ins C dx fs) ∧ fs.lookup m = none ∧
  t σ H1 fun vs H2 => te σ H2 fun z H3 => vs.length + 1 = n ∧ sp (.ref a :: (vs ++ [z])) H3 Q (E σ)
section
variable {X : Cx} {CX : CXT} {k n : Nat} {ps : List Str} {sp : Sp} {C : Addr} {m kw : Str} {E : Sl → XK} {pos apos kpos : Pos} {e o ke : Expr} {es : List Expr} {ta te : TE} {t : TA}
theorem run_kw {pins : List (Addr × Obj)} {σ : Sl} {H : Hp} {s : Shared} {Q : VK} {f : Addr} {fd : FuncData} {us : List Value} {vs : List V} {u : Value} {z : V} (F : FnOk X.prog X.w X.K X.mg X.base CX k f fd ps sp) (hr : Room k X.A) (hx : PassesAt CX X σ (E σ))
    (hb : BindsTo s fd ⟨us, [(kw, u)]⟩ (ps.zip (us ++ [u]))) (I : Inv X pins σ H s) (r : Vals vs us) (rz : L2.RelV z u) (h : sp (vs ++ [z]) H Q (E σ)) : wpAny (model X.prog X.w) X.A (call (.ref f) us [(kw, u)]) (EP X pins σ Q) X.xe s := by
  refine wpAny_call (codeAny_mono (F.run X.A X.stack s H ⟨us, [(kw, u)]⟩ (us ++ [u]) (vs ++ [z]) Q (E σ) hr I.env0 hb (r.append (.cons rz .nil)) h) fun w s2 q => ?_)
  cases w with
  | error er => exact hx pins H s er s2 I q
  | ok fl =>
    cases fl with
    | ret v => exact I.after q
    | next => exact False.elim q
    | brk => exact False.elim q
    | cont => exact False.elim q
theorem pe_mk {pl : Sem Bool} (Z : HasK X.prog X.w X.K X.mg X.base CX k C m kw n ps sp) (c : Cls X.K C) (hr : Room k X.A) (hx : ∀ σ, PassesAt CX X σ (E σ)) (he : PE X o ta) (ha : PA X (e :: es) t) (hke : PE X ke te)
    (hall : (backToKw pos (keywordEach [⟨some kw, ke, kpos⟩] X.env)).all (·.1.isSome) = true := by rfl) (hks : (backToKw pos (keywordEach [⟨some kw, ke, kpos⟩] X.env)).filterMap (·.1) = [kw] := by rfl)
    (hst : starEach (e :: es) X.env = (false, eval e X.env) :: starEach es X.env := by rfl) (hpl : ((backTo pos (starEach (e :: es) X.env)).any (·.1) || (backToKw pos (keywordEach [⟨some kw, ke, kpos⟩] X.env)).any (·.1.isNone)) = false := by rfl)
    (ht : eval (.Call (.Attribute o m apos) (e :: es) [⟨some kw, ke, kpos⟩] pos) X.env = (do
      let ov ← eval o X.env
      standAt apos.atName
      let (f, first) ← holding [ov] (getMethod ov m pl)
      callWith pos f first (backTo pos (starEach (e :: es) X.env)) (backToKw pos (keywordEach [⟨some kw, ke, kpos⟩] X.env))) := by rfl) : PE X (.Call (.Attribute o m apos) (e :: es) [⟨some kw, ke, kpos⟩] pos) (tMethK C m n sp E ta te t) := by
  obtain ⟨f, fd, mt, bd, F⟩ := Z.ex
  refine ⟨fun pins s σ H Q I h => PySem.W.methodCall_KW (pl := pl) (thn (he.run pins s σ H _ I h) fun u s1 ⟨x, H1, I1, rx, a, dx, fs, ex, ea, l, q⟩ => ?_) ht⟩
  subst ex
  obtain rfl : u = Value.ref a := rx
  refine getmeth_ok I1 ea c mt l ?_
  refine PySem.W.callWith_KW (first := [.ref a]) (h₀ := X.base) I.ok.mod.kin mt.kp hall (thn (ha.run pos pins s1 σ H1 _ I1 q) fun us s2 ⟨vs, H2, I2, r, q2⟩ => ?_) hpl hst
  refine thn ((pk_cons (nm := some kw) (kpos := kpos) hke pk_nil).run pos pins s2 σ H2 (fun zs H3 => match zs with | [z] => vs.length + 1 = n ∧ sp (.ref a :: (vs ++ [z])) H3 Q (E σ) | _ => False) I2 q2) fun ws s3 ⟨zs, H3, I3, rz, q3⟩ => ⟨I3.kIn, ?_⟩
  match zs, rz, q3 with
  | [z], rz, ⟨ln, q3⟩ =>
    cases rz with
    | @cons _ w0 _ wr rw0 rr =>
      cases rr
      rw [hks]
      exact run_kw (us := .ref a :: us) (vs := .ref a :: vs) F hr (hx σ) (bd _ (.ref a :: us) w0 (by rw [List.length_cons, ← r.length]; exact ln)) I3 (.cons rfl r) rw0 q3
end
end K73
set_option Elab.async false
set_option linter.all false
set_option maxRecDepth 100000
set_option maxHeartbeats 4000000
/-! K73Spec: o.m(user=e); len and repr by an own method; repr of data. -/
namespace K73
open PySem PySem.Spec PyProof.Rows L2
section
variable {X : Cx} {CX : CXT} {k n : Nat} {ps : List Str} {sp : Sp} {C : Addr} {m kw : Str} {E : Sl → XK} {pos apos kpos : Pos} {e o ke : Expr} {es : List Expr} {ta te : TE} {t : TA}
theorem pe_mk0 {pl : Sem Bool} (Z : HasK X.prog X.w X.K X.mg X.base CX k C m kw 1 ps sp) (c : Cls X.K C) (hr : Room k X.A) (hx : ∀ σ, PassesAt CX X σ (E σ)) (he : PE X o ta) (hke : PE X ke te)
    (hall : (backToKw pos (keywordEach [⟨some kw, ke, kpos⟩] X.env)).all (·.1.isSome) = true := by rfl) (hks : (backToKw pos (keywordEach [⟨some kw, ke, kpos⟩] X.env)).filterMap (·.1) = [kw] := by rfl)
    (hpl : ((backTo pos (starEach [] X.env)).any (·.1) || (backToKw pos (keywordEach [⟨some kw, ke, kpos⟩] X.env)).any (·.1.isNone)) = false := by rfl)
    (ht : eval (.Call (.Attribute o m apos) [] [⟨some kw, ke, kpos⟩] pos) X.env = (do
      let ov ← eval o X.env
      standAt apos.atName
      let (f, first) ← holding [ov] (getMethod ov m pl)
      callWith pos f first (backTo pos (starEach [] X.env)) (backToKw pos (keywordEach [⟨some kw, ke, kpos⟩] X.env))) := by rfl) : PE X (.Call (.Attribute o m apos) [] [⟨some kw, ke, kpos⟩] pos) (tMethK C m 1 sp E ta te tNil) := by
  obtain ⟨f, fd, mt, bd, F⟩ := Z.ex
  refine ⟨fun pins s σ H Q I h => PySem.W.methodCall_KW (pl := pl) (thn (he.run pins s σ H _ I h) fun u s1 ⟨x, H1, I1, rx, a, dx, fs, ex, ea, l, q⟩ => ?_) ht⟩
  subst ex
  obtain rfl : u = Value.ref a := rx
  refine getmeth_ok I1 ea c mt l ?_
  refine PySem.W.callWith_KW0 (first := [.ref a]) (h₀ := X.base) I.ok.mod.kin mt.kp hall ?_ hpl
  refine thn ((pk_cons (nm := some kw) (kpos := kpos) hke pk_nil).run pos pins s1 σ H1 (fun zs H3 => match zs with | [z] => ([] : List V).length + 1 = 1 ∧ sp (.ref a :: ([] ++ [z])) H3 Q (E σ) | _ => False) I1 q) fun ws s3 ⟨zs, H3, I3, rz, q3⟩ => ⟨I3.kIn, ?_⟩
  match zs, rz, q3 with
  | [z], rz, ⟨ln, q3⟩ =>
    cases rz with
    | @cons _ w0 _ wr rw0 rr =>
      cases rr
      rw [hks]
      exact run_kw (us := [.ref a]) (vs := [.ref a]) F hr (hx σ) (bd _ [.ref a] w0 rfl) I3 (.cons rfl .nil) rw0 q3
end
/-! ### a method that a built-in function calls -/
section
variable {X : Cx} {k : Nat} {f : Addr} {fd : FuncData} {ps : List Str} {sp : Sp}
theorem run_in1 {pins : List (Addr × Obj)} {σ : Sl} {H : Hp} {s : Shared} {Q : VK} {us : List Value} {vs : List V} (F : FnS X.prog X.w X.K X.mg X.base k f fd ps sp) (st : Still X.A) (hr : Room (k + 1) X.A) (hb : Binds X.K fd ps [])
    (I : Inv X pins σ H s) (r : Vals vs us) (h : sp vs H Q E0) : wpAny (model X.prog X.w) X.A.in1 (call (.ref f) us) (EP X pins σ Q) X.xe s := by
  have hl : (us ++ []).length = ps.length := by rw [List.append_nil, ← r.length]; exact F.len _ _ _ _ h
  have bd := hb s us I.kIn hl
  rw [List.append_nil] at bd
  refine wpAny_call (codeAny_mono (F.go X.A.in1 st.in1 X.stack s H ⟨us, []⟩ us vs Q E0 hr.in1 I.env0.in1 bd r h) fun z s2 q => ?_)
  cases z with
  | error _ => exact False.elim q
  | ok fl =>
    cases fl with
    | ret u => exact I.after q
    | next => exact False.elim q
    | brk => exact False.elim q
    | cont => exact False.elim q
def rOwn1 (C : Addr) (sp : Sp) (R : V → Hp → VK → Prop) : List V → Hp → VK → Prop := fun xs H Q => ∃ a dx fs, xs = [.ref a] ∧ H a = some (.ins C dx fs) ∧ sp [.ref a] H (fun v H' => R v H' Q) E0
theorem call_lenOwn {C : Addr} (F : FnS X.prog X.w X.K X.mg X.base k f fd ps sp) (st : Still X.A) (hr : Room (k + 1) X.A) (hb : Binds X.K fd ps []) (hs : PySem.W.findIn X.K (.ref C) "__len__" = some (some (.ref f))) (hf : PySem.W.isFn X.K (.ref f) = true) :
    CallR X (.builtin "len") (rOwn1 C sp fun v H' Q => ∃ n : Int, v = .int n ∧ 0 ≤ n ∧ n < 2 ^ 63 ∧ Q (.int n) H') := by
  intro pins s σ H xs us Q I r h
  obtain ⟨a, dx, fs, rfl, ha, q⟩ := h
  obtain rfl := Vals.ref1 r
  obtain ⟨mA, O, _⟩ := ins_get I.hok ha
  obtain ⟨od, J, _⟩ := O.look
  obtain ⟨m, fr⟩ := I.fr
  refine PySem.W.len_K fr I.ok.mod.kin J hs hf (wpAny_mono (run_in1 F st hr hb I r q) (fun v s' z => ?_) fun _ _ z => z)
  obtain ⟨x, H', I', rx, n, rfl, h0, h1, q⟩ := z
  obtain ⟨t, rfl⟩ := rx
  exact ⟨⟨h0, h1⟩, .int n, H', I'.tok _, ⟨_, rfl⟩, q⟩
theorem call_reprOwn {C : Addr} (F : FnS X.prog X.w X.K X.mg X.base k f fd ps sp) (st : Still X.A) (hr : Room (k + 1) X.A) (hb : Binds X.K fd ps []) (hs : PySem.W.findIn X.K (.ref C) "__repr__" = some (some (.ref f))) (hf : PySem.W.isFn X.K (.ref f) = true) :
    CallR X (.builtin "repr") (rOwn1 C sp fun v H' Q => ∃ z : Str, v = .str z ∧ Q (.str z) H') := by
  intro pins s σ H xs us Q I r h
  obtain ⟨a, dx, fs, rfl, ha, q⟩ := h
  obtain rfl := Vals.ref1 r
  obtain ⟨mA, O, _⟩ := ins_get I.hok ha
  obtain ⟨od, J, _⟩ := O.look
  obtain ⟨m, fr⟩ := I.fr
  have hu : X.A.in1.units < cLine := by
    have := hr.un
    show X.A.units + 1 < cLine
    omega
  refine PySem.W.repr_K hu fr I.ok.mod.kin J hs hf (wpAny_mono (run_in1 F st hr hb I r q) (fun v s' z => ?_) fun _ _ z => z)
  obtain ⟨x, H', I', rx, z, rfl, q⟩ := z
  obtain ⟨t, rfl⟩ := rx
  exact ⟨.str z, H', I', ⟨_, rfl⟩, q⟩
end
/-! ### repr of data -/
/-- a dict of whole numbers and texts -/
def NS (kvs : List (L2.Key × V)) (D : List (Nat × Str)) : Prop := kvs = D.map fun p => (nk p.1, V.str p.2)
def nsD (D : List (Nat × Str)) : PyData := .dict (D.map fun p => (.int (p.1 : Nat), .str p.2))
section
variable {X : Cx}
theorem reads_keys {h : Heap} {prog : Program} {w : World} : ∀ {es : List DictEntry} {vs : List (L2.Key × Value)} {D : List (Nat × Str)}, Pairs (mixKind prog w) es vs → KV (D.map fun p => (nk p.1, V.str p.2)) vs →
    ReadsAll h (es.map (·.key)) (D.map fun p => .int (p.1 : Nat)) [] ∧ ReadsAll h (es.map (·.val)) (D.map fun p => .str p.2) []
  | [], _, [], _, _ => ⟨.nil, .nil⟩
  | [], _, p :: D, a, b => by
    cases a
    cases b
  | e :: es, _, [], a, b => by
    cases b
    cases a
  | e :: es, _, p :: D, a, b => by
    cases b with
    | cons r rr =>
      cases a with
      | cons k1 k2 k3 =>
        obtain ⟨i1, i2⟩ := reads_keys (h := h) k3 rr
        obtain ⟨r1, t, r2⟩ := r
        have k1' : Value.isInt ((p.1 : Nat) : Int) e.key = true := by rw [← r1] at k1; exact k1
        obtain ⟨tk, ek⟩ := Value.isInt_shape k1'
        refine ⟨?_, ?_⟩
        · rw [List.map_cons, List.map_cons, ek]
          exact ReadsAll.cons (Reads.int _ _) i1
        · rw [List.map_cons, List.map_cons, k2, r2]
          exact ReadsAll.cons (Reads.str _ _) i2
theorem reads_dict {pins : List (Addr × Obj)} {σ : Sl} {H : Hp} {s : Shared} {a : Addr} {D : List (Nat × Str)} (I : Inv X pins σ H s) (ha : H a = some (.dK (D.map fun p => (nk p.1, V.str p.2)))) :
    Reads s.heap (.ref a) (nsD D) [a] ∧ a ≠ sysModules := by
  obtain ⟨z, hsm, vs, kv, o, es, ep, h1, h2, h3, _, h5, _⟩ := dk_of I.hok ha
  obtain ⟨r1, r2⟩ := reads_keys (h := s.heap) h5 kv
  refine ⟨?_, fun e => by rw [e] at hsm; simp at hsm⟩
  have r := Reads.dict (kvs := D.map fun p => (PyData.int (p.1 : Nat), PyData.str p.2)) h1 h2.1 h3 (by rw [List.map_map]; exact r1) (by rw [List.map_map]; exact r2)
  exact r
theorem nsD_showable (D : List (Nat × Str)) (h : ∀ p ∈ D, p.1 < 1000) : (nsD D).showable = true := by
  unfold nsD
  rw [PyData.showable]
  induction D with
  | nil => rfl
  | cons p D ih =>
    rw [List.map_cons, PyData.showableKv, ih (fun q hq => h q (List.mem_cons_of_mem _ hq))]
    have hp := h p List.mem_cons_self
    have e1 : (PyData.int ((p.1 : Nat) : Int)).showable = true := by
      rw [PyData.showable]
      refine decide_eq_true ?_
      have : ((p.1 : Nat) : Int).natAbs = p.1 := rfl
      rw [this]
      have : p.1.log2 < 10 ∨ p.1 = 0 := by
        by_cases z : p.1 = 0
        · exact .inr z
        · exact .inl ((Nat.log2_lt z).mpr (by omega))
      rcases this with h | h
      · omega
      · rw [h]; decide
    rw [e1]
    rfl
theorem nsD_depth (D : List (Nat × Str)) : (nsD D).depth ≤ 2 := by
  unfold nsD
  rw [PyData.depth]
  have : PyData.depthKv (D.map fun p => (PyData.int (p.1 : Nat), PyData.str p.2)) = 0 := by
    induction D with
    | nil => rfl
    | cons p D ih => rw [List.map_cons, PyData.depthKv, ih]; simp [PyData.depth]
  omega
/-- repr(x), x a list or a tuple of data, or a dict of numbers and texts -/
def rRepr (K : PySem.W.Frag) : List V → Hp → VK → Prop := fun xs H Q => ∃ a d, xs = [.ref a] ∧ ((Dp K H (.ref a) d ∧ d.canLay0 = true ∧ d.showable = true ∧ d.depth ≤ 60) ∨ ∃ D : List (Nat × Str), H a = some (.dK (D.map fun p => (nk p.1, V.str p.2))) ∧ (∀ p ∈ D, p.1 < 1000) ∧ d = nsD D) ∧ d.shown.length ≤ sizeLine ∧ Q (.str d.shown) H
theorem call_repr (st : Still X.A) (hu : X.A.units + 64 < cLine) : CallR X (.builtin "repr") (rRepr X.K) := by
  intro pins s σ H xs us Q I r h
  obtain ⟨a, d, rfl, hd, hz, q⟩ := h
  obtain rfl := Vals.ref1 r
  have fin : ∀ h' u tk, (∀ b o, s.heap.get? b = some o → h'.get? b = some o) → EP X pins σ Q (.str d.shown u) { s with heap := h', toks := tk } := fun h' u tk k => ⟨.str d.shown, H, I.kept k, ⟨_, rfl⟩, q⟩
  rcases hd with ⟨hd, hc, hs, hdep⟩ | ⟨D, hD, hk, rfl⟩
  · obtain ⟨as, rd⟩ := Dp.reads I d (.ref a) (.ref a) hd rfl
    exact repr_of_reads' rd hs (PyData.noDict_hsm (PyData.hasDict_of_canLay _ hc)) st (by omega) (fun b o e => e) fin hz
  · obtain ⟨rd, ns⟩ := reads_dict I hD
    have := nsD_depth D
    exact repr_of_reads' rd (nsD_showable D hk) (fun _ hm => ns (List.mem_singleton.mp hm).symm) st (by omega) (fun b o e => e) fin hz
/-- {x}, x a dict of numbers and texts -/
def tFmtD (te : TE) : TE := fun σ H Q => te σ H fun x H1 => ∃ (a : Addr) (D : List (Nat × Str)), x = .ref a ∧ H1 a = some (.dK (D.map fun p => (nk p.1, V.str p.2))) ∧ (∀ p ∈ D, p.1 < 1000) ∧ (nsD D).shown.length ≤ sizeLine ∧ Q (.str (nsD D).shown) H1
theorem pe_fmtD {e : Expr} {te : TE} {pos : Pos} (st : Still X.A) (hu : X.A.units + 64 < cLine) (he : PE X e te) : PE X (.FormattedValue e (-1) none pos) (tFmtD te) := by
  refine ⟨fun pins s σ H Q I h => wpAny_FormattedValue_plain (thn (he.run pins s σ H _ I h) fun v s1 hv => ?_)⟩
  obtain ⟨x, H1, I1, r1, a, D, rfl, hD, hk, hz, q⟩ := hv
  obtain rfl : v = Value.ref a := r1
  obtain ⟨rd, ns⟩ := reads_dict I1 hD
  have := nsD_depth D
  exact formatField_of_reads rd (nsD_showable D hk) (fun _ hm => ns (List.mem_singleton.mp hm).symm) st (by omega) (fun b o e => e) (fun h' u tk k => ⟨.str (nsD D).shown, H1, I1.kept k, ⟨_, rfl⟩, q⟩) hz
end
end K73
set_option Elab.async false
set_option linter.all false
set_option maxRecDepth 100000
set_option maxHeartbeats 4000000
/-! K73Ses: a session in the heap; what it tells. -/
namespace K73
open PySem PySem.Spec PyProof.Rows L2
abbrev sSes (j : Nat) : Stmt := inClass (topS 44) j
/-- a change: the user, added or removed, the entry -/
abbrev Chg := Nat × Bool × Nat
def wd (b : Bool) : Str := if b then "add" else "remove"
def chV (c : Chg) : List V := [.int (c.1 : Nat), .str (wd c.2.1), .int (c.2.2 : Nat)]
def CRel (H : Hp) (LC : List V) (cs : List Chg) : Prop := LC.length = cs.length ∧ ∀ (i : Nat) (c : Chg), cs[i]? = some c → ∃ b : Addr, LC[i]? = some (V.ref b) ∧ H b = some (.tup (chV c))
theorem CRel.to {H H' : Hp} {LC : List V} {cs : List Chg} (r : CRel H LC cs) (s : TupS H H') : CRel H' LC cs :=
  ⟨r.1, fun i e h => let ⟨b, h1, h2⟩ := r.2 i e h; ⟨b, h1, s _ _ h2⟩⟩
theorem CRel.snoc {H : Hp} {LC : List V} {cs : List Chg} (r : CRel H LC cs) {b : Addr} {c : Chg} (hb : H b = some (.tup (chV c))) : CRel H (LC ++ [.ref b]) (cs ++ [c]) := by
  refine ⟨by rw [List.length_append, List.length_append, r.1]; rfl, fun i x h => ?_⟩
  rw [List.getElem?_append] at h ⊢
  rw [r.1]
  split at h
  · rename_i hi
    rw [if_pos hi]
    exact r.2 i x h
  · rename_i hi
    rw [if_neg hi]
    cases q : i - cs.length with
    | zero =>
      rw [q] at h
      cases h
      exact ⟨b, rfl, hb⟩
    | succ j =>
      rw [q] at h
      cases h
theorem CRel.erase {H : Hp} {LC : List V} {cs : List Chg} (r : CRel H LC cs) (k : Nat) : CRel H (LC.eraseIdx k) (cs.eraseIdx k) := by
  refine ⟨by rw [List.length_eraseIdx, List.length_eraseIdx, r.1], fun i x h => ?_⟩
  rw [List.getElem?_eraseIdx] at h ⊢
  split at h
  · rename_i hi
    rw [if_pos hi]
    exact r.2 i x h
  · rename_i hi
    rw [if_neg hi]
    exact r.2 (i + 1) x h
/-- is entry e current after the changes cs -/
def cur (cs : List Chg) (e : Nat) : Bool := (cs.any fun c => decide (c.2.2 = e) && c.2.1) && !(cs.any fun c => decide (c.2.2 = e) && !c.2.1)
def curL (added : List (List Nat)) (cs : List Chg) : List Nat := (List.range added.length).filter (cur cs)
def curW (added : List (List Nat)) (cs : List Chg) : List (List Nat) := (curL added cs).map fun i => (added[i]?).getD []
def ents (added : List (List Nat)) (cs : List Chg) : List (Nat × Str) := (curL added cs).map fun i => (i, tx ((added[i]?).getD []))
def entK (D : List (Nat × Str)) : List (L2.Key × V) := D.map fun p => (nk p.1, V.str p.2)
theorem curL_len {added : List (List Nat)} {cs : List Chg} : (curL added cs).length ≤ added.length := by
  have q := List.length_filter_le (cur cs) (List.range added.length)
  rw [List.length_range] at q
  exact q
theorem curW_mem {added : List (List Nat)} {cs : List Chg} {w : List Nat} (h : w ∈ curW added cs) : w ∈ added := by
  obtain ⟨i, hi, rfl⟩ := List.mem_map.mp h
  have := List.mem_range.mp (List.mem_filter.mp hi).1
  rw [List.getElem?_eq_getElem this]
  exact List.getElem_mem _
/-! ### the words of the changes to one entry -/
def selW (cs : List Chg) (e : Nat) : List V := ((List.range cs.length).filter fun i => decide ((cs[i]?.getD (0, false, 0)).2.2 = e)).map fun i => V.str (wd (cs[i]?.getD (0, false, 0)).2.1)
theorem sel_eq (cs : List Chg) (e : Nat) : selW cs e = (cs.filter fun c => decide (c.2.2 = e)).map fun c => V.str (wd c.2.1) := by
  have key : ∀ n, n ≤ cs.length → ((List.range n).filter fun i => decide ((cs[i]?.getD (0, false, 0)).2.2 = e)).map (fun i => V.str (wd (cs[i]?.getD (0, false, 0)).2.1)) = ((cs.take n).filter fun c => decide (c.2.2 = e)).map fun c => V.str (wd c.2.1) := by
    intro n
    induction n with
    | zero => intro _; rfl
    | succ n ih =>
      intro h
      have hn : n < cs.length := h
      have en : cs[n]? = some cs[n] := List.getElem?_eq_getElem hn
      rw [List.range_succ, List.filter_append, List.map_append, ih (Nat.le_of_lt h), List.take_add_one, en, List.filter_append, List.map_append]
      congr 1
      by_cases z : cs[n].2.2 = e
      · simp [en, z]
      · simp [en, z]
  have q := key cs.length (Nat.le_refl _)
  rw [List.take_length] at q
  exact q
theorem wd_ne : (wd true : Str) ≠ wd false := by decide +kernel
theorem in_words (cs : List Chg) (e : Nat) (b : Bool) : inV (.str (wd b)) (selW cs e) = cs.any fun c => decide (c.2.2 = e) && (c.2.1 == b) := by
  rw [sel_eq]
  unfold inV
  induction cs with
  | nil => rfl
  | cons c cs ih =>
    rw [List.any_cons, ← ih]
    by_cases z : c.2.2 = e
    · rw [List.filter_cons_of_pos (by simpa using z), List.map_cons, List.any_cons, decide_eq_true z, Bool.true_and]
      congr 1
      cases h : c.2.1 <;> cases b <;> decide +kernel
    · rw [List.filter_cons_of_neg (by simpa using z), decide_eq_false z, Bool.false_and, Bool.false_or]
theorem words_flat (cs : List Chg) (e : Nat) : (selW cs e).all flatV = true := by
  rw [List.all_eq_true]
  intro x hx
  obtain ⟨_, _, rfl⟩ := List.mem_map.mp hx
  rfl
theorem cur_words (cs : List Chg) (e : Nat) : cur cs e = (inV (.str "add") (selW cs e) && !inV (.str "remove") (selW cs e)) := by
  have h1 := in_words cs e true
  have h2 := in_words cs e false
  have e1 : (V.str (wd true)) = V.str "add" := rfl
  have e2 : (V.str (wd false)) = V.str "remove" := rfl
  rw [e1] at h1
  rw [e2] at h2
  rw [h1, h2]
  unfold cur
  congr 2
  · funext c; cases c.2.1 <;> rfl
  · congr 1; funext c; cases c.2.1 <;> rfl
/-! ### the object -/
structure SA where
  p : Addr
  dx : Addr
  a : Addr
  c : Addr
def ssf (o : SA) (n : Nat) : List (Str × V) := [("added", .ref o.a), ("changes", .ref o.c), ("change_count", .int (n : Nat))]
theorem ssf_a {o : SA} {n : Nat} : (ssf o n).lookup ("added" : Str) = some (.ref o.a) := lk_eq
theorem ssf_c {o : SA} {n : Nat} : (ssf o n).lookup ("changes" : Str) = some (.ref o.c) := (lk_ne (by decide +kernel)).trans lk_eq
theorem ssf_k {o : SA} {n : Nat} : (ssf o n).lookup ("change_count" : Str) = some (.int (n : Nat)) := (lk_ne (by decide +kernel)).trans ((lk_ne (by decide +kernel)).trans lk_eq)
def sesNames : List Str := ["added", "changes", "change_count"]
theorem ssf_no {o : SA} {n : Nat} {m : Str} (h : (sesNames.map fun k => m == k) = [false, false, false]) : (ssf o n).lookup m = none := by
  simp only [sesNames, List.map_cons, List.map_nil, List.cons.injEq, and_true] at h
  obtain ⟨h1, h2, h3⟩ := h
  exact (lk_ne h1).trans ((lk_ne h2).trans (lk_ne h3))
theorem ssf_put {o : SA} {n m : Nat} : putF "change_count" (.int (m : Nat)) (ssf o n) = ssf o m := by
  unfold ssf
  rw [putF_ne (by decide +kernel), putF_ne (by decide +kernel), putF_eq]
theorem ssf_len {o : SA} {n : Nat} : (ssf o n).length < 1000 := by show 3 < 1000; decide
structure SST (K : PySem.W.Frag) (C : Addr) : Prop where
  cl : Cls K C
  na : NoAttr K C "added"
  nc : NoAttr K C "changes"
  nk : NoAttr K C "change_count"
structure SB (C : Addr) (H : Hp) (o : SA) (added : List (List Nat)) (cs : List Chg) (n : Nat) (LC : List V) : Prop where
  p : H o.p = some (.ins C o.dx (ssf o n))
  a : H o.a = some (.lst (words added))
  c : H o.c = some (.lst LC)
  r : CRel H LC cs
  ne : o.a ≠ o.c
theorem SB.same {C : Addr} {H H' : Hp} {o : SA} {added : List (List Nat)} {cs : List Chg} {n : Nat} {LC : List V} (B : SB C H o added cs n LC) (s : Same H H') : SB C H' o added cs n LC :=
  ⟨s _ _ B.p, s _ _ B.a, s _ _ B.c, B.r.to (samT s), B.ne⟩
def spSInit (C : Addr) : Sp := fun vs H Q _ => ∃ p dx : Addr, vs = [.ref p] ∧ H p = some (.ins C dx []) ∧ ∀ H' o, o.p = p → (∀ b u, H b = some u → b ≠ p → H' b = some u) → SB C H' o [] [] 0 [] → (H o.a = none ∧ H o.c = none) → Q .non H'
def spIsCur (C : Addr) : Sp := fun vs H Q _ => ∃ (o : SA) (added : List (List Nat)) (cs : List Chg) (n : Nat) (LC : List V) (e : Nat), vs = [.ref o.p, .int (e : Nat)] ∧ SB C H o added cs n LC ∧ cs.length ≤ 1000 ∧ ∀ H', Same H H' → Q (.bl (cur cs e)) H'
def spEntries (C : Addr) : Sp := fun vs H Q _ => ∃ (o : SA) (added : List (List Nat)) (cs : List Chg) (n : Nat) (LC : List V), vs = [.ref o.p] ∧ SB C H o added cs n LC ∧ cs.length ≤ 1000 ∧ added.length ≤ 1000 ∧ ∀ H' d, Same H H' → H d = none → H' d = some (.dK (entK (ents added cs))) → Q (.ref d) H'
def spPaths (C : Addr) : Sp := fun vs H Q _ => ∃ (o : SA) (added : List (List Nat)) (cs : List Chg) (n : Nat) (LC : List V), vs = [.ref o.p] ∧ SB C H o added cs n LC ∧ cs.length ≤ 1000 ∧ added.length ≤ 1000 ∧ (∀ w ∈ added, Steps w ∧ w.length ≤ 8) ∧
  ∀ H' l, Same H H' → H' l = some (.lst (words ((curW added cs).map red))) → Q (.ref l) H'
section
variable {P : Program} {w : World} {K : PySem.W.Frag} {mg : Str → Option Value} {base : Heap} {f C : Addr} {fd : FuncData}
theorem scSInit : FnScope ["self"] ["self"] (defScope (sSes 0)) := ⟨rfl, rfl, rfl, by decide +kernel, rfl, by decide +kernel, by decide +kernel⟩
theorem ses_fs (a c n : V) : putF "change_count" n (putF "changes" c (putF "added" a [])) = ([("added", a), ("changes", c), ("change_count", n)] : List (Str × V)) := by
  have e1 : putF ("added" : Str) a [] = ([("added", a)] : List (Str × V)) := rfl
  have e2 : putF ("changes" : Str) c [("added", a)] = ([("added", a), ("changes", c)] : List (Str × V)) := by
    rw [putF_ne (by decide +kernel)]; rfl
  rw [e1, e2, putF_ne (by decide +kernel), putF_ne (by decide +kernel)]
  rfl
theorem ok_sInit (F : MtP K "Session.__init__" "__init__" (sSes 0) f fd) (T : SST K C) : FnOk P w K mg base CX0 1 f fd ["self"] (spSInit C) := by
  refine F.ok scSInit (fun vs H Q E h => ?_) (fun cdv A outer s H vs Q E hr h => ⟨_, PSs.nox (pss_cons (ps_fld (pv 0) (pe_lst pa_nil) rfl) (pss_cons (ps_fld (pv 0) (pe_lst pa_nil) rfl) (pss_one (ps_fld (pv 0) pe_int rfl)))), ?_⟩)
  · obtain ⟨p, dx, rfl, _⟩ := h; rfl
  · obtain ⟨p, dx, rfl, hp, q⟩ := h
    refine ⟨Nat.zero_le _, fun a na => ⟨_, rfl, p, C, dx, _, rfl, same_new na _ _ hp, T.cl, T.na, (by show 0 < 1000; decide), ?_⟩⟩
    have s1 := same_new (o := .lst []) na
    have ap : a ≠ p := fun z => by rw [z, hp] at na; cases na
    have k1 : ∀ b u, H b = some u → b ≠ p → upd (upd H a (.lst [])) p (.ins C dx (putF "added" (.ref a) [])) b = some u := fun b u h n => by rw [upd_ne n]; exact s1 _ _ h
    have ha2 : upd (upd H a (.lst [])) p (.ins C dx (putF "added" (.ref a) [])) a = some (.lst []) := by rw [upd_ne ap]; exact upd_same
    have hp2 := upd_same (H := upd H a (.lst [])) (a := p) (o := .ins C dx (putF "added" (.ref a) []))
    generalize upd (upd H a (.lst [])) p (.ins C dx (putF "added" (.ref a) [])) = H2 at k1 ha2 hp2
    refine ⟨Nat.zero_le _, fun c nc => ⟨_, rfl, p, C, dx, _, rfl, same_new nc _ _ hp2, T.cl, T.nc, Nat.lt_of_le_of_lt (putF_len _ _ _) (by show 1 < 1000; decide), ?_⟩⟩
    have s3 := same_new (o := .lst []) nc
    have cp : c ≠ p := fun z => by rw [z, hp2] at nc; cases nc
    have ac : a ≠ c := ne_of_none ha2 nc
    have nc0 : H c = none := by
      cases e : H c with
      | none => rfl
      | some u => rw [k1 c u e cp] at nc; cases nc
    have k3 : ∀ b u, H b = some u → b ≠ p → upd (upd H2 c (.lst [])) p (.ins C dx (putF "changes" (.ref c) (putF "added" (.ref a) []))) b = some u := fun b u h n => by rw [upd_ne n]; exact s3 _ _ (k1 _ _ h n)
    have ha3 : upd (upd H2 c (.lst [])) p (.ins C dx (putF "changes" (.ref c) (putF "added" (.ref a) []))) a = some (.lst []) := by rw [upd_ne ap]; exact s3 _ _ ha2
    have hc3 : upd (upd H2 c (.lst [])) p (.ins C dx (putF "changes" (.ref c) (putF "added" (.ref a) []))) c = some (.lst []) := by rw [upd_ne cp]; exact upd_same
    have hp3 := upd_same (H := upd H2 c (.lst [])) (a := p) (o := .ins C dx (putF "changes" (.ref c) (putF "added" (.ref a) [])))
    generalize upd (upd H2 c (.lst [])) p (.ins C dx (putF "changes" (.ref c) (putF "added" (.ref a) []))) = H3 at k3 ha3 hc3 hp3
    refine ⟨_, rfl, p, C, dx, _, rfl, hp3, T.cl, T.nk, Nat.lt_of_le_of_lt (Nat.le_trans (putF_len _ _ _) (Nat.succ_le_succ (putF_len _ _ _))) (by show 2 < 1000; decide), ?_⟩
    have ef : putF "change_count" (V.int 0) (putF "changes" (.ref c) (putF "added" (.ref a) [])) = ssf ⟨p, dx, a, c⟩ 0 := ses_fs _ _ _
    rw [ef]
    refine q _ ⟨p, dx, a, c⟩ rfl (fun b u h n => by rw [upd_ne n]; exact k3 _ _ h n) ⟨upd_same, ?_, ?_, ⟨rfl, fun i e h => by cases h⟩, ac⟩ ⟨na, nc0⟩
    · show upd H3 p _ a = _
      rw [upd_ne ap]; exact ha3
    · show upd H3 p _ c = _
      rw [upd_ne cp]; exact hc3
def nsIsCur : List Str := ["self", "entry", "words", "user", "word", "number"]
theorem scIsCur : FnScope nsIsCur ["self", "entry"] (defScope (sSes 1)) := ⟨rfl, rfl, rfl, by decide +kernel, rfl, by decide +kernel, by decide +kernel⟩
theorem ok_isCur (F : MtP K "Session.is_current" "is_current" (sSes 1) f fd) (T : SST K C) : FnOk P w K mg base CX0 1 f fd ["self", "entry"] (spIsCur C) := by
  refine F.ok scIsCur (fun vs H Q E h => ?_) (fun cdv A outer s H vs Q E hr h => ⟨_, PSs.nox (pss_cons (ps_setLc (i := 2) (own := [("user", 3), ("word", 4), ("number", 5)]) (g := gTup K 3 (gCons (gName 3) (gCons (gName 4) (gCons (gName 5) gNil)))) rfl scIsCur.nd rfl rfl (sw_true rfl rfl rfl (by decide +kernel)) (pi_list (pe_fld (pv 0) rfl)) (blkOk_by (N := nsIsCur) (sc := defScope (sSes 1)) (by decide +kernel))
          (fun _ _ _ _ _ => pg_tup rfl (pgs_cons (pg_name (i := 3) scIsCur.nd rfl (Or.inl rfl)) (pgs_cons (pg_name (i := 4) scIsCur.nd rfl (Or.inl rfl)) (pgs_cons (pg_name (i := 5) scIsCur.nd rfl (Or.inl rfl)) pgs_nil))))
          (fun _ _ _ _ _ => pts_one (pt_cmpR op_eq (pv 5) (pv 1) (nomark _))) (fun _ _ _ _ _ => pv 4))
    (pss_one (ps_ret (pe_and (pe_cmpR op_in_seq pe_str (pv 2) rfl) (pe_one (pe_cmpR op_notIn_seq pe_str (pv 2) rfl)))))), ?_⟩)
  · obtain ⟨o, added, cs, n, LC, e, rfl, _⟩ := h; rfl
  · obtain ⟨o, added, cs, n, LC, e, rfl, B, hz, q⟩ := h
    refine ⟨_, rfl, o.p, C, o.dx, _, _, rfl, B.p, T.cl, T.nc, ssf_c, o.c, rfl, ⟨_, SqL.of B.c⟩, fun D nD => ?_⟩
    refine lc_filt walk_list (fun i => decide ((cs[i]?.getD (0, false, 0)).2.2 = e)) (fun i => V.str (wd (cs[i]?.getD (0, false, 0)).2.1)) (by rw [B.r.1]; exact Nat.le_trans hz (by decide)) (fun H' s' => SqL.of (s' _ _ B.c)) nD (fun i x H1 H2 Q2 N hi s1 y k1 k2 => ?_) (fun H1 s1 hD => ?_)
    · obtain ⟨rfl, ex⟩ := y
      rw [B.r.1] at hi
      have ec : cs[i]? = some cs[i] := List.getElem?_eq_getElem hi
      obtain ⟨b, e1, e2⟩ := B.r.2 i cs[i] ec
      rw [ex] at e1
      cases e1
      rw [ec] at k1 k2
      refine ⟨b, _, rfl, SqT.of (s1 _ _ e2), rfl, _, _, rfl, _, _, rfl, _, _, rfl, rfl, rfl, ?_⟩
      refine ⟨_, rfl, _, rfl, rfl, _, rfl, ?_⟩
      by_cases z : cs[i].2.2 = e
      · refine iteTb (decide_eq_true (by rw [z])) ?_
        exact ⟨_, rfl, k1 (decide_eq_true z) _ (Same.refl _)⟩
      · refine iteFb (decide_eq_false (fun q => z (by have := V.int.inj q; omega))) ?_
        exact k2 (decide_eq_false z) _ (Same.refl _)
    · rw [B.r.1] at hD
      have hD : H1 D = some (.lst (selW cs e)) := hD
      have fl := words_flat cs e
      refine ⟨_, rfl, D, _, rfl, .inl (SqL.of hD), rfl, fl, _, rfl, ?_⟩
      have cw := cur_words cs e
      cases h1 : inV (.str "add") (selW cs e) with
      | false =>
        rw [h1] at cw
        refine iteFb rfl ?_
        rw [← show cur cs e = false from cw]
        exact q _ s1
      | true =>
        rw [h1, Bool.true_and] at cw
        refine iteTb rfl ?_
        refine ⟨_, rfl, D, _, rfl, .inl (SqL.of hD), rfl, fl, ?_⟩
        show Q (.bl (!inV (.str "remove") (selW cs e))) H1
        rw [← cw]
        exact q _ s1

def nsEntries : List Str := ["self", "entry", "path"]
theorem scEntries : FnScope nsEntries ["self"] (defScope (sSes 2)) := ⟨rfl, rfl, rfl, by decide +kernel, rfl, by decide +kernel, by decide +kernel⟩
theorem ok_entries (F : MtP K "Session.entries" "entries" (sSes 2) f fd) (B : Bi mg) (T : SST K C) (ZC : HasM P w K mg base 1 C "is_current" ["self", "entry"] (spIsCur C)) : FnOk P w K mg base CX0 2 f fd ["self"] (spEntries C) := by
  refine F.ok scEntries (fun vs H Q E h => ?_) (fun cdv A outer s H vs Q E hr h => ⟨_, PSs.nox (pss_one (ps_ret (pe_dc (own := [("entry", 1), ("path", 2)]) (g := gTup K 2 (gCons (gName 1) (gCons (gName 2) gNil))) rfl scEntries.nd (pi_enum (by rfl) B.enumerate (pa_cons (pe_fld (pv 0) rfl) pa_nil)) (blkOk_by (N := nsEntries) (sc := defScope (sSes 2)) (by decide +kernel))
          (fun _ _ _ _ _ => pg_tup rfl (pgs_cons (pg_name (i := 1) scEntries.nd rfl (Or.inl rfl)) (pgs_cons (pg_name (i := 2) scEntries.nd rfl (Or.inl rfl)) pgs_nil)))
          (fun _ _ _ _ _ => pts_one (pt_val (pe_hm ZC T.cl hr (pv 0) (pa_cons (pv 1) pa_nil)))) (fun _ _ _ _ _ => pv 1) (fun _ _ _ _ _ => pv 2)))), ?_⟩)
  · obtain ⟨o, added, cs, n, LC, rfl, _⟩ := h; rfl
  · obtain ⟨o, added, cs, n, LC, rfl, B0, hz, hza, q⟩ := h
    have hl : (words added).length = added.length := by rw [words, List.length_map]
    refine ⟨_, rfl, o.p, C, o.dx, _, _, rfl, B0.p, T.cl, T.na, ssf_a, o.a, _, rfl, SqL.of B0.a, fun D nD => ?_⟩
    refine dc_filt walk_enum (cur cs) nk (fun i => V.str (tx ((added[i]?).getD []))) (by rw [hl]; exact Nat.le_trans hza (by decide)) (fun H' s' => SqL.of (s' _ _ B0.a)) nD (fun i x H1 H2 Q2 N hi s1 y k1 k2 => ?_) (fun H1 s1 hD => ?_)
    · obtain ⟨T1, x1, x2, rfl, nT, rfl, e1, e2⟩ := y
      cases e1
      rw [hl] at hi
      have ea : added[i]? = some added[i] := List.getElem?_eq_getElem hi
      have e2 : (words added)[i]? = some x2 := e2
      rw [words, List.getElem?_map, ea] at e2
      cases e2
      rw [ea] at k1
      have s2 := same_new (o := .tup [.int (i : Nat), .str (tx added[i])]) nT
      have B2 := (B0.same s1).same s2
      refine ⟨T1, _, rfl, SqT.of upd_same, rfl, _, _, rfl, _, _, rfl, rfl, rfl, ?_⟩
      refine ⟨_, rfl, o.p, o.dx, _, rfl, B2.p, ssf_no (by decide +kernel), _, rfl, ?_⟩
      refine ⟨o, added, cs, n, LC, i, rfl, B2, hz, fun H3 s3 => ⟨_, rfl, ?_⟩⟩
      cases h : cur cs i with
      | true => exact iteT ⟨_, rfl, _, rfl, k1 h _ (s2.trans s3)⟩
      | false => exact iteF (k2 h _ (s2.trans s3))
    · rw [hl, dAcc_map (fun i j h => nk_inj h)] at hD
      have hD : H1 D = some (.dK (entK (ents added cs))) := by
        rw [hD]
        unfold entK ents curL
        rw [List.map_map]
        rfl
      exact q _ D s1 nD hD
def nsPaths : List Str := ["self", "path"]
theorem scPaths : FnScope nsPaths ["self"] (defScope (sSes 3)) := ⟨rfl, rfl, rfl, by decide +kernel, rfl, by decide +kernel, by decide +kernel⟩
theorem ok_paths (F : MtP K "Session.paths" "paths" (sSes 3) f fd) (T : SST K C) (ZE : HasM P w K mg base 2 C "entries" ["self"] (spEntries C)) (ZR : Has P w K mg base 1 "reduce_all" ["parts"] (spReduce K)) : FnOk P w K mg base CX0 3 f fd ["self"] (spPaths C) := by
  refine F.ok scPaths (fun vs H Q E h => ?_) (fun cdv A outer s H vs Q E hr h => ⟨_, PSs.nox (pss_one (ps_ret (pe_lc (own := [("path", 1)]) (g := gName 1) (tt := tYes) rfl scPaths.nd (pi_values (pe_frz (pe_hm0 ZE T.cl hr (pv 0)))) (blkOk_by (N := nsPaths) (sc := defScope (sSes 3)) (by decide +kernel))
          (fun _ _ _ _ _ => pg_name (i := 1) scPaths.nd rfl (Or.inl rfl)) (fun _ _ _ _ _ => pts_nil) (fun _ _ _ _ _ => pe_h ZR (hr.mono (by decide)) (pa_cons (pe_lst (pa_cons (pv 1) pa_nil)) pa_nil))))), ?_⟩)
  · obtain ⟨o, added, cs, n, LC, rfl, _⟩ := h; rfl
  · obtain ⟨o, added, cs, n, LC, rfl, B0, hz, hza, hws, q⟩ := h
    refine ⟨_, rfl, o.p, o.dx, _, rfl, B0.p, ssf_no (by decide +kernel), ?_⟩
    refine ⟨o, added, cs, n, LC, rfl, B0, hz, hza, fun H1 d s1 nd hd => ?_⟩
    refine ⟨d, _, rfl, hd, trivial, fun ob => ?_⟩
    have s2 : Same H (upd H1 d (.frz ob (.dK (entK (ents added cs))))) := same_upd s1 nd
    have hd2 := upd_same (H := H1) (a := d) (o := .frz ob (.dK (entK (ents added cs))))
    refine ⟨d, ob, _, rfl, hd2, fun D nD => ?_⟩
    have hl : (entK (ents added cs)).length = (curL added cs).length := by rw [entK, List.length_map, ents, List.length_map]
    have cl := curL_len (added := added) (cs := cs)
    refine lc_map walk_values (fun i => V.str (tx (red ((curW added cs)[i]?.getD [])))) (by rw [hl]; exact Nat.le_trans cl (Nat.le_trans hza (by decide))) (fun H' s' => s' _ _ hd2) nD (fun i x H2 H3 Q2 hi s3 y k => ?_) (fun H2 s3 hD => ?_)
    · obtain ⟨rfl, kk, e1⟩ := y
      rw [hl] at hi
      have hiw : i < (curW added cs).length := by rw [curW, List.length_map]; exact hi
      have ew : (curW added cs)[i]? = some (curW added cs)[i] := List.getElem?_eq_getElem hiw
      have ex : x = .str (tx (curW added cs)[i]) := by
        have e2 : (entK (ents added cs))[i]? = ((curL added cs)[i]?).map fun j => (nk j, V.str (tx ((added[j]?).getD []))) := by
          rw [entK, ents, List.map_map, List.getElem?_map]; rfl
        have e3 : (curW added cs)[i]? = ((curL added cs)[i]?).map fun j => (added[j]?).getD [] := by rw [curW, List.getElem?_map]
        rw [e2] at e1
        rw [ew] at e3
        cases e4 : (curL added cs)[i]? with
        | none => rw [e4] at e1; cases e1
        | some j =>
          rw [e4] at e1 e3
          cases e1
          rw [Option.some.inj e3]
      subst ex
      rw [ew] at k
      obtain ⟨h1, h2⟩ := hws _ (curW_mem (List.mem_of_getElem? ew))
      refine ⟨rfl, _, rfl, (by show 1 ≤ sizeLine; decide), fun a na => ?_⟩
      exact ⟨a, _, rfl, SqL.of upd_same, h1, by omega, fun H4 s4 => k _ ((same_new na).trans s4)⟩
    · rw [hl] at hD
      have hcl : (curL added cs).length = (curW added cs).length := by rw [curW, List.length_map]
      rw [hcl] at hD
      have e5 : (List.range (curW added cs).length).map (fun i => V.str (tx (red ((curW added cs)[i]?.getD [])))) = words ((curW added cs).map red) := by
        rw [words, List.map_map, ← range_map_get V.non ((fun w => V.str (tx w)) ∘ red) (curW added cs)]
        refine List.map_congr_left fun i hi => ?_
        rw [List.getElem?_eq_getElem (List.mem_range.mp hi)]
        rfl
      rw [e5] at hD
      exact q _ D (s2.trans s3) hD
end
end K73
set_option Elab.async false
set_option linter.all false
set_option maxRecDepth 100000
set_option maxHeartbeats 4000000
/-! K73Ses2: what a session is asked and told. -/
namespace K73
open PySem PySem.Spec PyProof.Rows L2
/-- all but the session stays -/
def SFr (o : SA) (H H' : Hp) : Prop := ∀ b u, H b = some u → b ≠ o.p → b ≠ o.a → b ≠ o.c → H' b = some u
theorem SFr.of {o : SA} {H H' : Hp} (s : Same H H') : SFr o H H' := fun b u h _ _ _ => s b u h
theorem SFr.trans {o : SA} {H H1 H2 : Hp} (a : SFr o H H1) (b : SFr o H1 H2) : SFr o H H2 := fun c u h h1 h2 h3 => b c u (a c u h h1 h2 h3) h1 h2 h3
theorem SB.tup {C : Addr} {H : Hp} {o : SA} {added : List (List Nat)} {cs : List Chg} {n : Nat} {LC : List V} (B : SB C H o added cs n LC) {b : Addr} {xs : List V} (h : H b = some (.tup xs)) : b ≠ o.p ∧ b ≠ o.a ∧ b ≠ o.c :=
  ⟨ne_of h B.p (by intro z; cases z), ne_of h B.a (by intro z; cases z), ne_of h B.c (by intro z; cases z)⟩
theorem SB.frt {C : Addr} {H H' : Hp} {o : SA} {added : List (List Nat)} {cs : List Chg} {n : Nat} {LC : List V} (B : SB C H o added cs n LC) (f : SFr o H H') : TupS H H' := fun b xs h => let ⟨h1, h2, h3⟩ := B.tup h; f b _ h h1 h2 h3
def spReqUser : Sp := fun vs H Q _ => ∃ (x : V) (u : Nat), vs = [x, .int (u : Nat)] ∧ u < 4 ∧ Q .non H
def spRecord (C : Addr) : Sp := fun vs H Q _ => ∃ (o : SA) (added : List (List Nat)) (cs : List Chg) (n : Nat) (LC : List V) (u e : Nat) (b : Bool), vs = [.ref o.p, .int (u : Nat), .str (wd b), .int (e : Nat)] ∧ SB C H o added cs n LC ∧ cs.length ≤ 1000 ∧
  ∀ H' LC', SFr o H H' → SB C H' o added (cs ++ [(u, b, e)]) (n + 1) LC' → Q .non H'
def spHist (C : Addr) : Sp := fun vs H Q _ => ∃ (o : SA) (added : List (List Nat)) (cs : List Chg) (n : Nat) (LC : List V), vs = [.ref o.p] ∧ SB C H o added cs n LC ∧ ∀ H' l, Same H H' → H' l = some (.lst LC) → Q (.ref l) H'
def spLen (C : Addr) : Sp := fun vs H Q _ => ∃ (o : SA) (added : List (List Nat)) (cs : List Chg) (n : Nat) (LC : List V), vs = [.ref o.p] ∧ SB C H o added cs n LC ∧ cs.length ≤ 1000 ∧ added.length ≤ 1000 ∧ ∀ H', Same H H' → Q (.int ((curL added cs).length : Nat)) H'
def sesText (D : List (Nat × Str)) : Str := ("Session(" : Str) ++ (nsD D).shown ++ (")" : Str)
def spRepr (C : Addr) : Sp := fun vs H Q _ => ∃ (o : SA) (added : List (List Nat)) (cs : List Chg) (n : Nat) (LC : List V), vs = [.ref o.p] ∧ SB C H o added cs n LC ∧ cs.length ≤ 1000 ∧ added.length ≤ 900 ∧ (sesText (ents added cs)).length ≤ sizeLine ∧ ∀ H', Same H H' → Q (.str (sesText (ents added cs))) H'
/-- two sessions without entries -/
def NoEnt (C : Addr) (a b : Addr) (H : Hp) : Prop := ∃ (o o' : SA) (added added' : List (List Nat)) (cs cs' : List Chg) (n n' : Nat) (LC LC' : List V), a = o.p ∧ b = o'.p ∧ SB C H o added cs n LC ∧ SB C H o' added' cs' n' LC' ∧ curL added cs = [] ∧ curL added' cs' = [] ∧
  cs.length ≤ 1000 ∧ added.length ≤ 1000 ∧ cs'.length ≤ 1000 ∧ added'.length ≤ 1000
/-- the latest change of user u: its place -/
def lastOwn (cs : List Chg) (u : Nat) : Option Nat := ((List.range cs.length).filter fun i => decide ((cs[i]?.getD (0, false, 0)).1 = u)).getLast?
def spAddP (C : Addr) : Sp := fun vs H Q _ => ∃ (o : SA) (added : List (List Nat)) (cs : List Chg) (n : Nat) (LC : List V) (w : List Nat) (u : Nat), vs = [.ref o.p, .str (tx w), .int (u : Nat)] ∧ SB C H o added cs n LC ∧ u < 4 ∧ Steps w ∧ w.length ≤ 8 ∧ added.length ≤ 13 ∧ cs.length ≤ 100 ∧ n ≤ 100 ∧
  (∀ w ∈ added, Steps w ∧ w.length ≤ 8) ∧
  ∀ H' r v LC', SFr o H H' → SB C H' o (added ++ [w]) (cs ++ [(u, true, added.length)]) (n + 1) LC' → H' r = some (.tup [.int (added.length : Nat), v]) →
    ((v = .non ∧ ¬ Gen ((curW added cs).map red) (red w)) ∨ ((∃ r', v = .ref r') ∧ Gen ((curW added cs).map red) (red w))) → Q (.ref r) H'
def spRem (C CU : Addr) : Sp := fun vs H Q E => ∃ (o : SA) (added : List (List Nat)) (cs : List Chg) (n : Nat) (LC : List V) (e u : Nat), vs = [.ref o.p, .int (e : Nat), .int (u : Nat)] ∧ SB C H o added cs n LC ∧ u < 4 ∧ cs.length ≤ 100 ∧ n ≤ 100 ∧
  (cur cs e = true → ∀ H' LC', SFr o H H' → SB C H' o added (cs ++ [(u, false, e)]) (n + 1) LC' → Q .non H') ∧
  (cur cs e = false → ∀ H' d, Same H H' → H' d = some (.xd [("value", .int (e : Nat))]) → E (.ref CU) (some d) H')
def spUndo (C CN : Addr) : Sp := fun vs H Q E => ∃ (o : SA) (added : List (List Nat)) (cs : List Chg) (n : Nat) (LC : List V) (u : Nat), vs = [.ref o.p, .int (u : Nat)] ∧ SB C H o added cs n LC ∧ u < 4 ∧ cs.length ≤ 100 ∧ added.length ≤ 14 ∧
  (∀ k c, lastOwn cs u = some k → cs[k]? = some c → ∀ H' r LC', SFr o H H' → SB C H' o added (cs.eraseIdx k) n LC' → H' r = some (.tup [.str (wd c.2.1), .int (c.2.2 : Nat)]) → Q (.ref r) H') ∧
  (lastOwn cs u = none → ∀ H' d, Same H H' → H' d = some (.xd [("user", .int (u : Nat))]) → E (.ref CN) (some d) H')
section
variable {P : Program} {w : World} {K : PySem.W.Frag} {mg : Str → Option Value} {base : Heap} {f C : Addr} {fd : FuncData}
theorem scReqUser : FnScope ["self", "user"] ["self", "user"] (defScope (sSes 4)) := ⟨rfl, rfl, rfl, by decide +kernel, rfl, by decide +kernel, by decide +kernel⟩
theorem ok_reqUser (F : MtP K "Session.require_user" "require_user" (sSes 4) f fd) (B : Bi mg) (ZI : Has P w K mg base 1 "is_integer" ["value"] spIsInt) : FnOk P w K mg base CX0 2 f fd ["self", "user"] spReqUser := by
  refine F.ok scReqUser (fun vs H Q E h => ?_) (fun cdv A outer s H vs Q E hr h => ⟨_, PSs.nox (pss_one (ps_if (PW.pt (pw_or (pt_not (pt_val (pe_h ZI hr (pa_cons (pv 1) pa_nil)))) (pw_or1 (pt_not (pt_chain op_le op_lt pe_int (pv 1) (pe_const B.USER_COUNT)))))) (pss_one ps_never) pss_nil)), ?_⟩)
  · obtain ⟨x, u, rfl, _⟩ := h; rfl
  · obtain ⟨x, u, rfl, hu, q⟩ := h
    refine ⟨_, rfl, _, rfl, true, rfl, iteF ?_⟩
    refine ⟨_, rfl, _, _, rfl, rfl, true, congrArg V.bl (decide_eq_true (by omega)), iteT ⟨_, _, rfl, rfl, true, congrArg V.bl (decide_eq_true (by omega)), iteF q⟩⟩
theorem scRecord : FnScope ["self", "user", "word", "entry"] ["self", "user", "word", "entry"] (defScope (sSes 5)) := ⟨rfl, rfl, rfl, by decide +kernel, rfl, by decide +kernel, by decide +kernel⟩
theorem ok_record (F : MtP K "Session.record" "record" (sSes 5) f fd) (T : SST K C) : FnOk P w K mg base CX0 1 f fd ["self", "user", "word", "entry"] (spRecord C) := by
  refine F.ok scRecord (fun vs H Q E h => ?_) (fun cdv A outer s H vs Q E hr h => ⟨_, PSs.nox (pss_cons (ps_expr (pe_bm PySem.F.plainAttrs_list PySem.F.slot_list_append PySem.F.type_list_append mt_append (pe_fld (pv 0) rfl) (pa_cons (pe_tup (pa_cons (pv 1) (pa_cons (pv 2) (pa_cons (pv 3) pa_nil)))) pa_nil)))
    (pss_one (ps_fldaug (pv 0) pe_int in_add))), ?_⟩)
  · obtain ⟨o, added, cs, n, LC, u, e, b, rfl, _⟩ := h; rfl
  · obtain ⟨o, added, cs, n, LC, u, e, b, rfl, B0, hz, q⟩ := h
    refine ⟨_, rfl, o.p, C, o.dx, _, _, rfl, B0.p, T.cl, T.nc, ssf_c, .inl ⟨rfl, _, SqL.of B0.c⟩, _, rfl, _, rfl, _, rfl, (by show 3 ≤ sizeLine; decide), fun t nt => ?_⟩
    have s1 := same_new (o := .tup [.int (u : Nat), .str (wd b), .int (e : Nat)]) nt
    have B1 := B0.same s1
    have ht := upd_same (H := H) (a := t) (o := .tup [.int (u : Nat), .str (wd b), .int (e : Nat)])
    refine ⟨o.c, LC, _, rfl, rfl, B1.c, Nat.lt_of_le_of_lt (show LC.length ≤ 1000 by rw [B0.r.1]; exact hz) (by decide), ?_⟩
    have f1 : SFr o H (upd (upd H t (.tup [.int (u : Nat), .str (wd b), .int (e : Nat)])) o.c (.lst (LC ++ [.ref t]))) := fun x y h h1 h2 h3 => by rw [upd_ne h3]; exact s1 _ _ h
    have ts : TupS (upd H t (.tup [.int (u : Nat), .str (wd b), .int (e : Nat)])) (upd (upd H t (.tup [.int (u : Nat), .str (wd b), .int (e : Nat)])) o.c (.lst (LC ++ [.ref t]))) := fun x ys h => by rw [upd_ne (B1.tup h).2.2]; exact h
    have r2 := (B1.r.snoc (c := (u, b, e)) ht).to ts
    have hp2 : upd (upd H t (.tup [.int (u : Nat), .str (wd b), .int (e : Nat)])) o.c (.lst (LC ++ [.ref t])) o.p = some (.ins C o.dx (ssf o n)) := by rw [upd_ne (ne_of B1.p B1.c (by intro z; cases z))]; exact B1.p
    have ha2 : upd (upd H t (.tup [.int (u : Nat), .str (wd b), .int (e : Nat)])) o.c (.lst (LC ++ [.ref t])) o.a = some (.lst (words added)) := by rw [upd_ne B1.ne]; exact B1.a
    have hc2 := upd_same (H := upd H t (.tup [.int (u : Nat), .str (wd b), .int (e : Nat)])) (a := o.c) (o := .lst (LC ++ [.ref t]))
    generalize upd (upd H t (.tup [.int (u : Nat), .str (wd b), .int (e : Nat)])) o.c (.lst (LC ++ [.ref t])) = H2 at f1 r2 hp2 ha2 hc2
    refine ⟨_, rfl, o.p, C, o.dx, _, _, rfl, hp2, T.cl, T.nk, ssf_k, _, _, rfl, rfl, o.dx, _, hp2, ssf_len, ?_⟩
    have ep : putF "change_count" (V.int ((n : Int) + 1)) (ssf o n) = ssf o (n + 1) := ssf_put (m := n + 1)
    rw [ep]
    have ts3 : TupS H2 (upd H2 o.p (.ins C o.dx (ssf o (n + 1)))) := fun x ys h => by rw [upd_ne (ne_of h hp2 (by intro z; cases z))]; exact h
    refine q _ (LC ++ [.ref t]) (fun x y h h1 h2 h3 => by rw [upd_ne h1]; exact f1 x y h h1 h2 h3) ⟨upd_same, ?_, ?_, r2.to ts3, B0.ne⟩
    · rw [upd_ne (ne_of ha2 hp2 (by intro z; cases z))]; exact ha2
    · rw [upd_ne (ne_of hc2 hp2 (by intro z; cases z))]; exact hc2
theorem scHist : FnScope ["self"] ["self"] (defScope (sSes 12)) := ⟨rfl, rfl, rfl, by decide +kernel, rfl, by decide +kernel, by decide +kernel⟩
theorem ok_hist (F : MtP K "Session.history" "history" (sSes 12) f fd) (B : Bi mg) (T : SST K C) : FnOk P w K mg base CX0 1 f fd ["self"] (spHist C) := by
  refine F.ok scHist (fun vs H Q E h => ?_) (fun cdv A outer s H vs Q E hr h => ⟨_, PSs.nox (pss_one (ps_ret (pe_callTy call_list_of rfl B.list (by decide +kernel) (pa_cons (pe_fld (pv 0) rfl) pa_nil)))), ?_⟩)
  · obtain ⟨o, added, cs, n, LC, rfl, _⟩ := h; rfl
  · obtain ⟨o, added, cs, n, LC, rfl, B0, q⟩ := h
    exact ⟨_, rfl, o.p, C, o.dx, _, _, rfl, B0.p, T.cl, T.nc, ssf_c, o.c, _, rfl, .inl (SqL.of B0.c), fun l nl => q _ l (same_new nl) upd_same⟩
theorem scLen : FnScope ["self"] ["self"] (defScope (sSes 15)) := ⟨rfl, rfl, rfl, by decide +kernel, rfl, by decide +kernel, by decide +kernel⟩
theorem ok_len (F : MtP K "Session.__len__" "__len__" (sSes 15) f fd) (B : Bi mg) (T : SST K C) (ZE : HasM P w K mg base 2 C "entries" ["self"] (spEntries C)) : FnOk P w K mg base CX0 3 f fd ["self"] (spLen C) := by
  refine F.ok scLen (fun vs H Q E h => ?_) (fun cdv A outer s H vs Q E hr h => ⟨_, PSs.nox (pss_one (ps_ret (pe_callB call_lenD rfl B.len PySem.boot_len (pa_cons (pe_hm0 ZE T.cl hr (pv 0)) pa_nil)))), ?_⟩)
  · obtain ⟨o, added, cs, n, LC, rfl, _⟩ := h; rfl
  · obtain ⟨o, added, cs, n, LC, rfl, B0, hz, hza, q⟩ := h
    refine ⟨_, rfl, o.p, o.dx, _, rfl, B0.p, ssf_no (by decide +kernel), ?_⟩
    refine ⟨o, added, cs, n, LC, rfl, B0, hz, hza, fun H1 d s1 nd hd => ⟨d, _, rfl, hd, ?_⟩⟩
    have hl : (entK (ents added cs)).length = (curL added cs).length := by rw [entK, List.length_map, ents, List.length_map]
    rw [hl]
    exact q _ s1
theorem scRepr : FnScope ["self"] ["self"] (defScope (sSes 16)) := ⟨rfl, rfl, rfl, by decide +kernel, rfl, by decide +kernel, by decide +kernel⟩
theorem ents_small {added : List (List Nat)} {cs : List Chg} (h : added.length ≤ 900) : ∀ p ∈ ents added cs, p.1 < 1000 := fun p hp => by
  obtain ⟨i, hi, rfl⟩ := List.mem_map.mp hp
  have := List.mem_range.mp (List.mem_filter.mp hi).1
  show i < 1000
  omega
theorem ok_repr (F : MtP K "Session.__repr__" "__repr__" (sSes 16) f fd) (T : SST K C) (ZE : HasM P w K mg base 2 C "entries" ["self"] (spEntries C)) : FnS P w K mg base 3 f fd ["self"] (spRepr C) := by
  refine fnS F scRepr (fun vs H Q E h => ?_) (fun cdv A outer s H vs Q E hr st h => ⟨_, PSs.nox (pss_one (ps_ret (pe_joined (.cons pe_str (.cons (pe_fmtD st (room64 hr) (pe_hm0 ZE T.cl hr (pv 0))) (.cons pe_str .nil)))))), ?_⟩)
  · obtain ⟨o, added, cs, n, LC, rfl, _⟩ := h; rfl
  · obtain ⟨o, added, cs, n, LC, rfl, B0, hz, hza, hsz, q⟩ := h
    have e0 : (Str.empty ++ ("Session(" : Str)) = ("Session(" : Str) := by decide +kernel
    refine ⟨_, rfl, (by rw [e0]; decide +kernel), ?_⟩
    rw [e0]
    refine ⟨_, rfl, o.p, o.dx, _, rfl, B0.p, ssf_no (by decide +kernel), ?_⟩
    have l1 : (("Session(" : Str) ++ (nsD (ents added cs)).shown).length ≤ sizeLine := by
      refine Nat.le_trans ?_ hsz
      show (("Session(" : Str) ++ (nsD (ents added cs)).shown).cps.size ≤ ((("Session(" : Str) ++ (nsD (ents added cs)).shown).cps ++ (")" : Str).cps).size
      rw [Array.size_append]
      omega
    have l2 : (nsD (ents added cs)).shown.length ≤ sizeLine := by
      refine Nat.le_trans ?_ l1
      show _ ≤ (("Session(" : Str).cps ++ (nsD (ents added cs)).shown.cps).size
      rw [Array.size_append]
      exact Nat.le_add_left _ _
    refine ⟨o, added, cs, n, LC, rfl, B0, hz, by omega, fun H1 d s1 nd hd => ⟨d, ents added cs, rfl, hd, ents_small hza, l2, _, rfl, l1, _, rfl, hsz, ?_⟩⟩
    exact q _ s1
theorem scEq : FnScope ["self", "other"] ["self", "other"] (defScope (sSes 14)) := ⟨rfl, rfl, rfl, by decide +kernel, rfl, by decide +kernel, by decide +kernel⟩
end
end K73
set_option Elab.async false
set_option linter.all false
set_option maxRecDepth 100000
set_option maxHeartbeats 4000000
/-! K73Ses3: ==, an entry is added, removed, a change is undone. -/
namespace K73
open PySem PySem.Spec PyProof.Rows L2
/-- what isinstance asks of an own class -/
structure IsiC (K : PySem.W.Frag) (C : Addr) : Prop where
  ha : PySem.W.findIn K (.ref C) "__class__" = some (some (.builtin "object.__class__"))
  hn : PySem.W.specialIn K (.builtin "object.__class__") "__get__" = some (some (.builtin "getset_descriptor.__get__"))
  htk : PySem.W.takesIn K (.builtin "object.__class__") = some true
  hm : PySem.W.mroIn K C (.type "object") = some true
abbrev MtK (K : PySem.W.Frag) (c x : Str) (st : Stmt) (f : Addr) (fd : FuncData) : Prop := FunD K x c (defArgs st) (defBody st) (defScope st) [] [("user", .int 0)] f fd
def ixMro : List Value := [.type "IndexError", .type "LookupError", .type "Exception", .type "BaseException", .type "object"]
def rtMro : List Value := [.type "RuntimeError", .type "Exception", .type "BaseException", .type "object"]
def spXInit (C : Addr) (f : Str) : Sp := fun vs H Q _ => ∃ (a : Addr) (v : V), vs = [.ref a, v] ∧ H a = some (exo a C none) ∧ ∀ dx, H dx = none → dx ≠ a → Q .non (upd (upd H dx (exd dx [(f, v)])) a (exo a C (some dx)))
/-- an own exception of the text and its __init__ -/
structure HasX (P : Program) (w : World) (K : PySem.W.Frag) (mg : Str → Option Value) (base : Heap) (x : Str) (C : Addr) (newId : String) (bm : List Value) (ps : List Str) (f : Str) : Prop where
  own : OwnX K C newId bm
  mgC : mg x = some (.ref C)
  no : NoAttr K C f
  ex : ∃ (fI : Addr) (fd : FuncData), PySem.W.findIn K (.ref C) "__init__" = some (some (.ref fI)) ∧ PySem.W.typeIn K (.ref fI) = some (.type "function") ∧ Binds K fd ps [] ∧ FnOk P w K mg base CX0 1 fI fd ps (spXInit C f)
/-- the end of C(e): what is left behind -/
theorem made_end {C a d : Addr} {H : Hp} {fs : List (Str × V)} (na : H a = none) (nd : H d = none) (da : d ≠ a) {o o2 : HO} {u : HO} :
    Same H (upd (del (upd (upd (upd H a o) d o2) a u) a) d (.xd fs)) ∧ upd (del (upd (upd (upd H a o) d o2) a u) a) d (.xd fs) d = some (.xd fs) := by
  refine ⟨fun b x e => ?_, upd_same⟩
  have ba := ne_of_none e na
  have bd := ne_of_none e nd
  rw [upd_ne bd, del_ne ba, upd_ne ba, upd_ne bd, upd_ne ba]
  exact e
section
variable {X : Cx} {x f : Str} {C : Addr} {B newId initId : String} {bmB : List Value} {ps : List Str} {e : Expr} {te : TE} {p pos : Pos}
theorem pmk_hx (FB : ExcBaseFacts B newId initId bmB) (Z : HasX X.prog X.w X.K X.mg X.base x C newId bmB ps f) (hr : Room 2 X.A) (he : PE X e te) (hg : Gl X x := by rfl) (hdb : (x == ("__debug__" : Str)) = false := by decide)
    (hst : starEach [e] X.env = (false, eval e X.env) :: starEach [] X.env := by rfl) : PMk X (.Call (.Name x p) [e] [] pos) (tMkO C (spXInit C f) [] (tCons te tNil)) := by
  obtain ⟨fI, fd, iC, tI, b, G⟩ := Z.ex
  exact pmk_own2 FB Z.own iC tI G hr b hg Z.mgC (pa_cons he pa_nil hst) hdb hst rfl
theorem x_made {v : V} {H1 : Hp} {Q : XK} (k : ∀ H' d, Same H1 H' → H' d = some (.xd [(f, v)]) → Q (.ref C) (some d) H') : ([v] : List V).length ≤ 1000 ∧ ∀ a, H1 a = none → spXInit C f (.ref a :: ([v] ++ [])) (upd H1 a (exo a C none))
      (fun w H2 => w = .non ∧ ∃ (d : Addr) (fs : List (Str × V)), H2 a = some (exo a C (some d)) ∧ H2 d = some (exd d fs) ∧ H1 d = none ∧ Q (.ref C) (some d) (upd (del H2 a) d (.xd fs))) (fun _ _ _ => False) := by
  refine ⟨by show 1 ≤ 1000; decide, fun a na => ⟨a, v, rfl, upd_same, fun d nd da => ⟨rfl, d, [(f, v)], upd_same, by rw [upd_ne da, upd_same], ?_, ?_⟩⟩⟩
  · rw [upd_ne da] at nd; exact nd
  · rw [upd_ne da] at nd
    obtain ⟨m1, m2⟩ := made_end (C := C) (o := exo a C none) (o2 := exd d [(f, v)]) (u := exo a C (some d)) (fs := [(f, v)]) na nd da
    exact k _ d m1 m2
end
section
variable {P : Program} {w : World} {K : PySem.W.Frag} {mg : Str → Option Value} {base : Heap} {f C : Addr} {fd : FuncData}
theorem scUE : FnScope ["self", "value"] ["self", "value"] (defScope (inClass (topS 10) 0)) := ⟨rfl, rfl, rfl, by decide +kernel, rfl, by decide +kernel, by decide +kernel⟩
theorem ok_UE (F : MtP K "UnknownEntry.__init__" "__init__" (inClass (topS 10) 0) f fd) (hm : mg "IndexError" = none) (vV : PySem.W.findCls K (.type "IndexError") (.type "type") "__init__" = some (.val (.builtin "IndexError.__init__"))) (O : OwnX K C "IndexError.__new__" ixMro) (no : NoAttr K C "value") :
    FnOk P w K mg base CX0 1 f fd ["self", "value"] (spXInit C "value") := by
  refine F.ok scUE (fun vs H Q E h => ?_) (fun cdv A outer s H vs Q E hr h => ⟨_, PSs.nox (pss_cons (ps_expr (pe_base PySem.F.excBase_IndexError rfl hm PyProof.Rows.Boot.«IndexError» (by kernel_rfl) (by decide +kernel) (by decide +kernel) vV (pa_cons (pv 0) (pa_cons pe_str pa_nil))))
    (pss_one (ps_first PySem.F.store_IndexError (newId := "IndexError.__new__") (pv 0) (pv 1)))), ?_⟩)
  · obtain ⟨a, v, rfl, _⟩ := h; rfl
  · obtain ⟨a, v, rfl, ha, q⟩ := h
    refine ⟨_, rfl, a, C, _, rfl, (by show 1 ≤ 1000; decide), O, ha, ?_⟩
    exact ⟨_, rfl, _, rfl, a, C, rfl, O, no, ha, fun dx n ne => q dx n ne⟩
theorem scNU : FnScope ["self", "user"] ["self", "user"] (defScope (inClass (topS 13) 0)) := ⟨rfl, rfl, rfl, by decide +kernel, rfl, by decide +kernel, by decide +kernel⟩
theorem ok_NU (F : MtP K "NothingToUndo.__init__" "__init__" (inClass (topS 13) 0) f fd) (hm : mg "RuntimeError" = none) (vV : PySem.W.findCls K (.type "RuntimeError") (.type "type") "__init__" = some (.val (.builtin "RuntimeError.__init__"))) (O : OwnX K C "RuntimeError.__new__" rtMro) (no : NoAttr K C "user") :
    FnOk P w K mg base CX0 1 f fd ["self", "user"] (spXInit C "user") := by
  refine F.ok scNU (fun vs H Q E h => ?_) (fun cdv A outer s H vs Q E hr h => ⟨_, PSs.nox (pss_cons (ps_expr (pe_base PySem.F.excBase_RuntimeError rfl hm PyProof.Rows.Boot.«RuntimeError» (by kernel_rfl) (by decide +kernel) (by decide +kernel) vV (pa_cons (pv 0) (pa_cons pe_str pa_nil))))
    (pss_one (ps_first PySem.F.store_RuntimeError (newId := "RuntimeError.__new__") (pv 0) (pv 1)))), ?_⟩)
  · obtain ⟨a, v, rfl, _⟩ := h; rfl
  · obtain ⟨a, v, rfl, ha, q⟩ := h
    refine ⟨_, rfl, a, C, _, rfl, (by show 1 ≤ 1000; decide), O, ha, ?_⟩
    exact ⟨_, rfl, _, rfl, a, C, rfl, O, no, ha, fun dx n ne => q dx n ne⟩
theorem ok_eq (F : MtP K "Session.__eq__" "__eq__" (sSes 14) f fd) (B : Bi mg) (T : SST K C) (S : IsiC K C) (mgC : mg "Session" = some (.ref C)) (ZE : HasM P w K mg base 2 C "entries" ["self"] (spEntries C)) : FnOk P w K mg base CX0 3 f fd ["self", "other"] (spEq (NoEnt C)) := by
  refine F.ok scEq (fun vs H Q E h => ?_) (fun cdv A outer s H vs Q E hr h => ⟨_, PSs.nox (pss_cons (ps_if (pt_not (pt_val (pe_callB call_isi rfl B.isinstance (by decide +kernel) (pa_cons (pv 1) (pa_cons (pe_glob (v := .ref C) rfl mgC rfl) pa_nil))))) (pss_one (ps_ret pe_bl)) pss_nil)
    (pss_one (ps_ret (pe_cmpR (op_eq_dictA (Nat.lt_of_le_of_lt (Nat.le_add_right _ 64) hr.units)) (pe_hm0 ZE T.cl hr (pv 0)) (pe_hm0 ZE T.cl hr (pv 1)) (nomark _))))), ?_⟩)
  · obtain ⟨a, b, rfl, _⟩ := h; rfl
  · obtain ⟨a, b, rfl, ⟨o, o', added, added', cs, cs', n, n', LC, LC', rfl, rfl, B1, B2, c1, c2, z1, z2, z3, z4⟩, q⟩ := h
    have one : PySem.W.kitOne K (.ref C) (.ref C) = some true := by unfold PySem.W.kitOne; rw [if_pos (by simp)]
    refine ⟨_, rfl, _, _, _, _, true, rfl, .own C, .base (.ins B2.p T.cl S.ha S.hn S.htk S.hm), one, ?_⟩
    refine ⟨true, rfl, iteF ?_⟩
    refine ⟨_, rfl, o.p, o.dx, _, rfl, B1.p, ssf_no (by decide +kernel), ?_⟩
    refine ⟨o, added, cs, n, LC, rfl, B1, z1, z2, fun H1 d1 s1 nd1 hd1 => ?_⟩
    have B3 := B2.same s1
    refine ⟨_, rfl, o'.p, o'.dx, _, rfl, B3.p, ssf_no (by decide +kernel), ?_⟩
    refine ⟨o', added', cs', n', LC', rfl, B3, z3, z4, fun H2 d2 s2 nd2 hd2 => ?_⟩
    have e1 : entK (ents added cs) = [] := by unfold ents; rw [c1]; rfl
    have e2 : entK (ents added' cs') = [] := by unfold ents; rw [c2]; rfl
    rw [e1] at hd1
    rw [e2] at hd2
    exact ⟨d1, d2, [], [], rfl, rfl, s2 _ _ hd1, hd2, rfl, fun p hp => (nomatch hp), q _ (s1.trans s2)⟩
end
end K73
set_option Elab.async false
set_option linter.all false
set_option maxRecDepth 100000
set_option maxHeartbeats 4000000
/-! K73Ses4: add_path, remove_entry, undo. -/
namespace K73
open PySem PySem.Spec PyProof.Rows L2
theorem lastOwn_some {cs : List Chg} {u k : Nat} (h : lastOwn cs u = some k) : ∃ c, cs[k]? = some c ∧ c.1 = u := by
  have m := List.mem_of_getLast? h
  obtain ⟨m1, m2⟩ := List.mem_filter.mp m
  have hk := List.mem_range.mp m1
  refine ⟨cs[k], List.getElem?_eq_getElem hk, ?_⟩
  have := of_decide_eq_true m2
  rw [List.getElem?_eq_getElem hk] at this
  exact this
def ownL (cs : List Chg) (u : Nat) : List Nat := (List.range cs.length).filter fun i => decide ((cs[i]?.getD (0, false, 0)).1 = u)
theorem ints_plain {K : PySem.W.Frag} {H : Hp} (l : List Nat) : ∀ x ∈ l.map (fun (i : Nat) => V.int (i : Nat)), Plain K H x := fun x hx => by
  obtain ⟨i, _, rfl⟩ := List.mem_map.mp hx
  exact ⟨_, .int _, by simp [PyData.canLay0], by simp [PyData.depth]⟩
theorem cut_tail (c : Chg) : cutV (chV c) (some 1) none = [.str (wd c.2.1), .int (c.2.2 : Nat)] := rfl
section
variable {P : Program} {w : World} {K : PySem.W.Frag} {mg : Str → Option Value} {base : Heap} {f C CU CN : Addr} {fd : FuncData}
def nsAddP : List Str := ["self", "path", "user", "goal", "derivation", "entry"]
theorem scAddP : FnScope nsAddP ["self", "path", "user"] (defScope (sSes 6)) := ⟨rfl, rfl, rfl, by decide +kernel, rfl, by decide +kernel, by decide +kernel⟩
theorem ok_addP (F : MtK K "Session.add_path" "add_path" (sSes 6) f fd) (B : Bi mg) (T : SST K C) (ZQ : Has P w K mg base 2 "require_path" ["value"] spReqPath) (ZU : HasM P w K mg base 2 C "require_user" ["self", "user"] spReqUser) (ZG : Has P w K mg base 2 "reduced_generator" ["path"] spRedGen)
    (ZE : HasM P w K mg base 2 C "entries" ["self"] (spEntries C)) (ZP : HasM P w K mg base 3 C "paths" ["self"] (spPaths C)) (ZD : Has P w K mg base 8 "derive_all" ["paths", "goals"] (spDerive K)) (ZR : HasM P w K mg base 1 C "record" ["self", "user", "word", "entry"] (spRecord C)) :
    FnOk P w K mg base CX0 9 f fd ["self", "path", "user"] (spAddP C) := by
  refine F.ok scAddP (fun vs H Q E h => ?_) (fun cdv A outer s H vs Q E hr h => ⟨_, PSs.nox (pss_cons (ps_expr (pe_h ZQ (hr.mono (by decide)) (pa_cons (pv 1) pa_nil))) (pss_cons (ps_expr (pe_hm ZU T.cl (hr.mono (by decide)) (pv 0) (pa_cons (pv 2) pa_nil)))
    (pss_cons (ps_set (i := 3) scAddP.nd rfl (Or.inl rfl) (pe_h ZG (hr.mono (by decide)) (pa_cons (pv 1) pa_nil)))
    (pss_cons (ps_if (pt_cmpR op_ge (pe_callB call_lenD rfl B.len PySem.boot_len (pa_cons (pe_hm0 ZE T.cl (hr.mono (by decide)) (pv 0)) pa_nil)) (pe_const B.MAX_GENERATORS) (nomark _)) (pss_one ps_never) pss_nil)
    (pss_cons (ps_if (pt_cmpR op_ge (pe_fld (pv 0) rfl) (pe_const B.MAX_CHANGES) (nomark _)) (pss_one ps_never) pss_nil)
    (pss_cons (ps_set (i := 4) scAddP.nd rfl (Or.inl rfl) (pe_ix ix_list (pe_h ZD hr (pa_cons (pe_hm0 ZP T.cl (hr.mono (by decide)) (pv 0)) (pa_cons (pe_lst (pa_cons (pv 3) pa_nil)) pa_nil))) pe_int (fun _ _ => rfl)))
    (pss_cons (ps_set (i := 5) scAddP.nd rfl (Or.inl rfl) (pe_callB call_len_seq rfl B.len PySem.boot_len (pa_cons (pe_fld (pv 0) rfl) pa_nil)))
    (pss_cons (ps_expr (pe_bm PySem.F.plainAttrs_list PySem.F.slot_list_append PySem.F.type_list_append mt_append (pe_fld (pv 0) rfl) (pa_cons (pv 1) pa_nil)))
    (pss_cons (ps_expr (pe_hm ZR T.cl (hr.mono (by decide)) (pv 0) (pa_cons (pv 2) (pa_cons pe_str (pa_cons (pv 5) pa_nil)))))
    (pss_one (ps_ret (pe_tup (pa_cons (pv 5) (pa_cons (pv 4) pa_nil)))))))))))))), ?_⟩)
  · obtain ⟨o, added, cs, n, LC, w, u, rfl, _⟩ := h; rfl
  · obtain ⟨o, added, cs, n, LC, w, u, rfl, B0, hu, hw, hwl, hal, hcl, hn, hws, q⟩ := h
    refine ⟨_, rfl, w, rfl, hw, by omega, fun H1 s1 => ?_⟩
    have B1 := B0.same s1
    refine ⟨_, rfl, o.p, o.dx, _, rfl, B1.p, ssf_no (by decide +kernel), _, rfl, _, u, rfl, hu, ?_⟩
    refine ⟨_, rfl, w, rfl, hw, by omega, fun H2 s2 => ?_⟩
    have B2 := B1.same s2
    refine ⟨_, rfl, o.p, o.dx, _, rfl, B2.p, ssf_no (by decide +kernel), ?_⟩
    refine ⟨o, added, cs, n, LC, rfl, B2, by omega, by omega, fun H3 d s3 nd hd => ⟨d, _, rfl, hd, ?_⟩⟩
    have hl : (entK (ents added cs)).length = (curL added cs).length := by rw [entK, List.length_map, ents, List.length_map]
    have cl := curL_len (added := added) (cs := cs)
    rw [hl]
    refine ⟨_, _, rfl, rfl, _, rfl, iteFb (decide_eq_false (by omega)) ?_⟩
    have B3 := B2.same s3
    refine ⟨_, rfl, o.p, C, o.dx, _, _, rfl, B3.p, T.cl, T.nk, ssf_k, _, _, rfl, rfl, _, rfl, iteFb (decide_eq_false (by omega)) ?_⟩
    refine ⟨_, rfl, o.p, o.dx, _, rfl, B3.p, ssf_no (by decide +kernel), ?_⟩
    refine ⟨o, added, cs, n, LC, rfl, B3, by omega, by omega, hws, fun H4 l s4 hl4 => ?_⟩
    refine ⟨_, rfl, (by show 1 ≤ sizeLine; decide), fun g ng => ?_⟩
    have s5 := same_new (o := .lst [.str (tx (red w))]) ng
    have rl := red_len w
    have hwsr : ∀ v ∈ (curW added cs).map red, Steps v ∧ v.length ≤ 8 := fun v hv => by
      obtain ⟨v0, h0, rfl⟩ := List.mem_map.mp hv
      obtain ⟨h1, h2⟩ := hws v0 (curW_mem h0)
      have := red_len v0
      exact ⟨red_steps h1, by omega⟩
    refine ⟨l, g, (curW added cs).map red, red w, rfl, s5 _ _ hl4, SqL.of upd_same, hwsr, ?_, red_steps hw, by omega, fun H6 D v s6 hD hv => ?_⟩
    · rw [List.length_map, curW, List.length_map]; omega
    have s06 : Same H H6 := (((s1.trans s2).trans s3).trans s4).trans (s5.trans s6)
    refine ⟨D, _, 0, v, rfl, rfl, SqL.of hD, atI_nat (j := 0) rfl, ?_⟩
    have B6 := B0.same s06
    have la : (words added).length = added.length := by rw [words, List.length_map]
    refine ⟨_, rfl, o.p, C, o.dx, _, _, rfl, B6.p, T.cl, T.na, ssf_a, _, _, rfl, .inl (SqL.of B6.a), ?_⟩
    rw [la]
    refine ⟨_, rfl, o.p, C, o.dx, _, _, rfl, B6.p, T.cl, T.na, ssf_a, .inl ⟨rfl, _, SqL.of B6.a⟩, _, rfl, o.a, _, _, rfl, rfl, B6.a, Nat.lt_of_le_of_lt (show (words added).length ≤ 13 by rw [la]; exact hal) (by decide), ?_⟩
    have ew : words added ++ [.str (tx w)] = words (added ++ [w]) := by rw [words, words, List.map_append]; rfl
    rw [ew]
    have ts : TupS H6 (upd H6 o.a (.lst (words (added ++ [w])))) := fun x ys h => by rw [upd_ne (B6.tup h).2.1]; exact h
    have f7 : SFr o H (upd H6 o.a (.lst (words (added ++ [w])))) := fun x y h h1 h2 h3 => by rw [upd_ne h2]; exact s06 _ _ h
    have B7 : SB C (upd H6 o.a (.lst (words (added ++ [w])))) o (added ++ [w]) cs n LC := ⟨by rw [upd_ne (ne_of B6.p B6.a (by intro z; cases z))]; exact B6.p, upd_same, by rw [upd_ne B6.ne.symm]; exact B6.c, B6.r.to ts, B6.ne⟩
    generalize upd H6 o.a (.lst (words (added ++ [w]))) = H7 at f7 B7
    refine ⟨_, rfl, o.p, o.dx, _, rfl, B7.p, ssf_no (by decide +kernel), _, rfl, _, rfl, ?_⟩
    refine ⟨o, added ++ [w], cs, n, LC, u, added.length, true, rfl, B7, by omega, fun H8 LC8 f8 B8 => ?_⟩
    refine ⟨_, rfl, _, rfl, (by show 2 ≤ sizeLine; decide), fun r nr => ?_⟩
    have s9 := same_new (o := .tup [.int (added.length : Nat), v]) nr
    exact q _ r v LC8 ((f7.trans f8).trans (SFr.of s9)) (B8.same s9) upd_same hv
def nsRem : List Str := ["self", "entry", "user"]
theorem scRem : FnScope nsRem nsRem (defScope (sSes 7)) := ⟨rfl, rfl, rfl, by decide +kernel, rfl, by decide +kernel, by decide +kernel⟩
theorem ok_rem (F : MtK K "Session.remove_entry" "remove_entry" (sSes 7) f fd) (B : Bi mg) (T : SST K C) (ZI : Has P w K mg base 1 "is_integer" ["value"] spIsInt) (ZC : HasM P w K mg base 1 C "is_current" ["self", "entry"] (spIsCur C)) (ZU : HasM P w K mg base 2 C "require_user" ["self", "user"] spReqUser)
    (ZR : HasM P w K mg base 1 C "record" ["self", "user", "word", "entry"] (spRecord C)) (ZX : HasX P w K mg base "UnknownEntry" CU "IndexError.__new__" ixMro ["self", "value"] "value") : FnOk P w K mg base (L2.CX P w) 3 f fd nsRem (spRem C CU) := by
  refine F.ok (CX := L2.CX P w) scRem (fun vs H Q E h => ?_) (fun cdv A outer s H vs Q E hr h => ⟨_, pss_cons (ps_if (PW.pt (pw_or (pt_not (pt_val (pe_h ZI (hr.mono (by decide)) (pa_cons (pv 1) pa_nil)))) (pw_or1 (pt_not (pt_val (pe_hm ZC T.cl (hr.mono (by decide)) (pv 0) (pa_cons (pv 1) pa_nil))))))) (pss_one (ps_raise rfl (takes_of rfl rfl rfl rfl) (pmk_hx PySem.F.excBase_IndexError ZX hr (pv 1)))) pss_nil)
    (pss_cons (ps_expr (pe_hm ZU T.cl hr (pv 0) (pa_cons (pv 2) pa_nil)))
    (pss_cons (ps_if (pt_cmpR op_ge (pe_fld (pv 0) rfl) (pe_const B.MAX_CHANGES) (nomark _)) (pss_one ps_never) pss_nil)
    (pss_one (ps_expr (pe_hm ZR T.cl (hr.mono (by decide)) (pv 0) (pa_cons (pv 2) (pa_cons pe_str (pa_cons (pv 1) pa_nil)))))))), ?_⟩)
  · obtain ⟨o, added, cs, n, LC, e, u, rfl, _⟩ := h; rfl
  · obtain ⟨o, added, cs, n, LC, e, u, rfl, B0, hu, hcl, hn, qy, qn⟩ := h
    refine ⟨_, rfl, _, rfl, true, rfl, iteF ?_⟩
    refine ⟨_, rfl, o.p, o.dx, _, rfl, B0.p, ssf_no (by decide +kernel), _, rfl, ?_⟩
    refine ⟨o, added, cs, n, LC, e, rfl, B0, by omega, fun H1 s1 => ⟨_, rfl, ?_⟩⟩
    cases hc : cur cs e with
    | false => exact iteT ⟨_, rfl, x_made fun H' d s2 hd => qn hc H' d (s1.trans s2) hd⟩
    | true =>
      refine iteF ?_
      have B1 := B0.same s1
      refine ⟨_, rfl, o.p, o.dx, _, rfl, B1.p, ssf_no (by decide +kernel), _, rfl, _, u, rfl, hu, ?_⟩
      refine ⟨_, rfl, o.p, C, o.dx, _, _, rfl, B1.p, T.cl, T.nk, ssf_k, _, _, rfl, rfl, _, rfl, iteFb (decide_eq_false (by omega)) ?_⟩
      refine ⟨_, rfl, o.p, o.dx, _, rfl, B1.p, ssf_no (by decide +kernel), _, rfl, _, rfl, ?_⟩
      exact ⟨o, added, cs, n, LC, u, e, false, rfl, B1, by omega, fun H2 LC2 f2 B2 => qy hc H2 LC2 ((SFr.of s1).trans f2) B2⟩
def nsUndo : List Str := ["self", "user", "own", "position", "change"]
theorem scUndo : FnScope nsUndo ["self", "user"] (defScope (sSes 8)) := ⟨rfl, rfl, rfl, by decide +kernel, rfl, by decide +kernel, by decide +kernel⟩
theorem ok_undo (F : MtK K "Session.undo" "undo" (sSes 8) f fd) (B : Bi mg) (T : SST K C) (ZU : HasM P w K mg base 2 C "require_user" ["self", "user"] spReqUser) (ZE : HasM P w K mg base 2 C "entries" ["self"] (spEntries C))
    (ZX : HasX P w K mg base "NothingToUndo" CN "RuntimeError.__new__" rtMro ["self", "user"] "user") : FnOk P w K mg base (L2.CX P w) 3 f fd ["self", "user"] (spUndo C CN) := by
  refine F.ok (CX := L2.CX P w) scUndo (fun vs H Q E h => ?_) (fun cdv A outer s H vs Q E hr h => ⟨_, pss_cons (ps_expr (pe_hm ZU T.cl hr (pv 0) (pa_cons (pv 1) pa_nil)))
    (pss_cons (ps_setLc (i := 2) (own := [("position", 3), ("change", 4)]) (g := gTup K 2 (gCons (gName 3) (gCons (gName 4) gNil))) rfl scUndo.nd rfl rfl (sw_true rfl rfl rfl (by decide +kernel)) (pi_enum (by rfl) B.enumerate (pa_cons (pe_fld (pv 0) rfl) pa_nil)) (blkOk_by (N := nsUndo) (sc := defScope (sSes 8)) (by decide +kernel))
          (fun _ _ _ _ _ => pg_tup rfl (pgs_cons (pg_name (i := 3) scUndo.nd rfl (Or.inl rfl)) (pgs_cons (pg_name (i := 4) scUndo.nd rfl (Or.inl rfl)) pgs_nil)))
          (fun _ _ _ _ _ => pts_one (pt_cmpR op_eq (pe_ix (show IxR _ (rIxT K) from ix_tup) (pv 4) pe_int (fun _ _ => rfl)) (pv 1) (nomark _))) (fun _ _ _ _ _ => pv 3))
    (pss_cons (ps_if (pt_cmpR (op_eqD (room64 hr)) (pv 2) (pe_lst pa_nil) (nomark _)) (pss_one (ps_raise rfl (takes_of rfl rfl rfl rfl) (pmk_hx PySem.F.excBase_RuntimeError ZX hr (pv 1)))) pss_nil)
    (pss_cons (ps_set (i := 4) scUndo.nd rfl (Or.inl rfl) (pe_bm PySem.F.plainAttrs_list PySem.F.slot_list_pop PySem.F.type_list_pop mt_popAt (pe_fld (pv 0) rfl) (pa_cons (pe_ix ix_list (pv 2) (pe_un un_neg pe_int) (fun _ _ => rfl)) pa_nil)))
    (pss_cons (ps_if (pt_cmpR op_gt (pe_callB call_lenD rfl B.len PySem.boot_len (pa_cons (pe_hm0 ZE T.cl hr (pv 0)) pa_nil)) (pe_const B.MAX_GENERATORS) (nomark _)) (pss_cons ps_never (pss_one ps_never)) pss_nil)
    (pss_one (ps_ret (pe_slice sl_tup (pv 4) (po_some pe_int) po_none))))))), ?_⟩)
  · obtain ⟨o, added, cs, n, LC, u, rfl, _⟩ := h; rfl
  · obtain ⟨o, added, cs, n, LC, u, rfl, B0, hu, hcl, hal, qy, qn⟩ := h
    refine ⟨_, rfl, o.p, o.dx, _, rfl, B0.p, ssf_no (by decide +kernel), _, rfl, _, u, rfl, hu, ?_⟩
    refine ⟨_, rfl, o.p, C, o.dx, _, _, rfl, B0.p, T.cl, T.nc, ssf_c, o.c, _, rfl, SqL.of B0.c, fun D nD => ?_⟩
    refine lc_filt walk_enum (fun i => decide ((cs[i]?.getD (0, false, 0)).1 = u)) (fun i => V.int (i : Nat)) (by rw [B0.r.1]; exact Nat.le_trans hcl (by decide)) (fun H' s' => SqL.of (s' _ _ B0.c)) nD (fun i x H1 H2 Q2 N hi s1 y k1 k2 => ?_) (fun H1 s1 hD => ?_)
    · obtain ⟨T1, x1, x2, rfl, nT, rfl, e1, e2⟩ := y
      cases e1
      rw [B0.r.1] at hi
      have ec : cs[i]? = some cs[i] := List.getElem?_eq_getElem hi
      obtain ⟨b, g1, g2⟩ := B0.r.2 i cs[i] ec
      have e2 : LC[i]? = some x2 := e2
      rw [e2] at g1
      cases g1
      rw [ec] at k1 k2
      have s2 := same_new (o := .tup [.int (i : Nat), .ref b]) nT
      refine ⟨T1, _, rfl, SqT.of upd_same, rfl, _, _, rfl, _, _, rfl, rfl, rfl, ?_⟩
      refine ⟨_, rfl, b, _, 0, .int (cs[i].1 : Nat), rfl, rfl, SqT.of (s2 _ _ (s1 _ _ g2)), atI_nat (j := 0) rfl, _, rfl, rfl, _, rfl, ?_⟩
      by_cases z : cs[i].1 = u
      · exact iteTb (decide_eq_true (by rw [z])) ⟨_, rfl, k1 (decide_eq_true z) _ s2⟩
      · exact iteFb (decide_eq_false (fun q => z (by have := V.int.inj q; omega))) (k2 (decide_eq_false z) _ s2)
    · rw [B0.r.1] at hD
      have hD : H1 D = some (.lst ((ownL cs u).map fun (i : Nat) => V.int (i : Nat))) := hD
      refine ⟨_, rfl, Nat.zero_le _, fun m nm => ?_⟩
      have s2 := same_new (o := .lst []) nm
      refine rEq_nil (SqL.of (s2 _ _ hD)) (ints_plain _) (SqL.of upd_same) ⟨_, rfl, ?_⟩
      have B2 := (B0.same s1).same s2
      have s12 := s1.trans s2
      have hD2 := s2 _ _ hD
      generalize upd H1 m (.lst []) = H2 at B2 s12 hD2
      cases ho : lastOwn cs u with
      | none =>
        have e : ownL cs u = [] := List.getLast?_eq_none_iff.mp ho
        rw [e]
        exact iteT ⟨_, rfl, x_made fun H' d s3 hd => qn ho H' d (s12.trans s3) hd⟩
      | some k =>
        obtain ⟨c, ek, eu⟩ := lastOwn_some ho
        have hne : ((ownL cs u).map fun (i : Nat) => V.int (i : Nat)).isEmpty = false := by
          cases h : ownL cs u with
          | nil =>
            have : (ownL cs u).getLast? = some k := ho
            rw [h] at this
            cases this
          | cons _ _ => rfl
        rw [hne]
        refine iteF ?_
        have hk : k < cs.length := (List.getElem?_eq_some_iff.mp ek).1
        have last : atI ((ownL cs u).map fun (i : Nat) => V.int (i : Nat)) (-1) = some (.int (k : Nat)) := by
          refine atI_end ?_
          have : (ownL cs u).getLast? = some k := ho
          rw [List.getLast?_map, this]
          rfl
        obtain ⟨b, g1, g2⟩ := B2.r.2 k c ek
        refine ⟨_, rfl, o.p, C, o.dx, _, _, rfl, B2.p, T.cl, T.nc, ssf_c, .inl ⟨rfl, _, SqL.of B2.c⟩, _, rfl, 1, rfl, D, _, _, _, rfl, rfl, SqL.of hD2, last, ?_⟩
        refine ⟨o.c, LC, (k : Int), k, .ref b, rfl, rfl, B2.c, by omega, by omega, ?_, g1, ?_⟩
        · have hk2 : k < LC.length := by rw [B2.r.1]; exact hk
          unfold seqIndex?
          first
            | (rw [if_neg (by omega), if_pos (by omega)]; simp)
            | (simp; omega)
        have ts : TupS H2 (upd H2 o.c (.lst (LC.eraseIdx k))) := fun x ys h => by rw [upd_ne (B2.tup h).2.2]; exact h
        have B3 : SB C (upd H2 o.c (.lst (LC.eraseIdx k))) o added (cs.eraseIdx k) n (LC.eraseIdx k) := ⟨by rw [upd_ne (ne_of B2.p B2.c (by intro z; cases z))]; exact B2.p, by rw [upd_ne B2.ne]; exact B2.a, upd_same, (B2.r.erase k).to ts, B2.ne⟩
        have f3 : SFr o H (upd H2 o.c (.lst (LC.eraseIdx k))) := fun x y h h1 h2 h3 => by rw [upd_ne h3]; exact s12 _ _ h
        have hb3 := ts _ _ g2
        generalize upd H2 o.c (.lst (LC.eraseIdx k)) = H3 at B3 f3 hb3
        have el : (cs.eraseIdx k).length ≤ cs.length := List.length_eraseIdx_le cs k
        refine ⟨_, rfl, o.p, o.dx, _, rfl, B3.p, ssf_no (by decide +kernel), ?_⟩
        refine ⟨o, added, cs.eraseIdx k, n, _, rfl, B3, by omega, by omega, fun H4 d s4 nd hd => ⟨d, _, rfl, hd, ?_⟩⟩
        have hl : (entK (ents added (cs.eraseIdx k))).length = (curL added (cs.eraseIdx k)).length := by rw [entK, List.length_map, ents, List.length_map]
        have cl := curL_len (added := added) (cs := cs.eraseIdx k)
        rw [hl]
        refine ⟨_, _, rfl, rfl, _, rfl, iteFb (decide_eq_false (by omega)) ?_⟩
        refine ⟨_, rfl, 1, rfl, b, _, rfl, SqT.of (s4 _ _ hb3), (by show ¬ (1 = 0 ∧ 3 = 3); decide), fun r nr => ?_⟩
        rw [cut_tail]
        have s5 := same_new (o := .tup [.str (wd c.2.1), .int (c.2.2 : Nat)]) nr
        exact qy k c ho ek _ r _ ((f3.trans (SFr.of s4)).trans (SFr.of s5)) ((B3.same s4).same s5) upd_same
end
end K73
set_option Elab.async false
set_option linter.all false
set_option maxRecDepth 100000
set_option maxHeartbeats 4000000
/-! K73LawD: the law's draws. -/
namespace K73
open PySem PySem.Spec PyProof.Rows L2
abbrev lPool : Stmt := topS 46
abbrev lDraw : Stmt := topS 47
abbrev lPath : Stmt := topS 48
abbrev lProduct : Stmt := topS 57
/-- all but what stands at S stays -/
def Touch (S : List Addr) (H H' : Hp) : Prop := ∀ b u, H b = some u → b ∉ S → H' b = some u
theorem Touch.of {S : List Addr} {H H' : Hp} (s : Same H H') : Touch S H H' := fun b u h _ => s b u h
theorem Touch.trans {S : List Addr} {H H1 H2 : Hp} (a : Touch S H H1) (b : Touch S H1 H2) : Touch S H H2 := fun c u h n => b c u (a c u h n) n
theorem Touch.more {S S' : List Addr} {H H' : Hp} (t : Touch S H H') (h : ∀ b ∈ S, b ∈ S') : Touch S' H H' := fun b u e n => t b u e fun m => n (h b m)
theorem Touch.upd {S : List Addr} {H : Hp} {a : Addr} {o : HO} (h : a ∈ S) : Touch S H (L2.upd H a o) := fun b u e n => by rw [upd_ne (fun z => n (by rw [z]; exact h))]; exact e
def PoolAt (H : Hp) (l : Addr) : Prop := ∃ x y : Int, H l = some (.lst [.int x, .int y]) ∧ 0 ≤ x ∧ 0 ≤ y ∧ y < 2147483647
theorem PoolAt.same {H H' : Hp} {l : Addr} (p : PoolAt H l) (s : Same H H') : PoolAt H' l := let ⟨x, y, h, r⟩ := p; ⟨x, y, s _ _ h, r⟩
theorem PoolAt.lst {H : Hp} {l : Addr} (p : PoolAt H l) : ∃ xs, H l = some (.lst xs) := let ⟨x, y, h, _⟩ := p; ⟨_, h⟩
def spPool (K : PySem.W.Frag) : Sp := fun vs H Q _ => ∃ (a : Addr) (ns : List Int) (i : Nat), vs = [.ref a, .int (i : Nat)] ∧ SqL K H a (ns.map V.int) ∧ ns.length ≤ 63 ∧ i ≤ 10 ∧ ∀ H' l, Same H H' → H l = none → PoolAt H' l → Q (.ref l) H'
def spDraw : Sp := fun vs H Q _ => ∃ (l : Addr) (b : Nat), vs = [.ref l, .int (b : Nat)] ∧ PoolAt H l ∧ 1 ≤ b ∧ b ≤ 1000 ∧ ∀ H' d, d < b → Touch [l] H H' → PoolAt H' l → Q (.int (d : Nat)) H'
def spPath : Sp := fun vs H Q _ => ∃ l : Addr, vs = [.ref l, .int 4, .int 2] ∧ PoolAt H l ∧ ∀ H' w, Touch [l] H H' → PoolAt H' l → Steps w → w.length ≤ 4 → Q (.str (tx w)) H'
def spProduct (K : PySem.W.Frag) : Sp := fun vs H Q _ => ∃ (l a : Addr) (ws : List (List Nat)), vs = [.ref l, .ref a, .int 2] ∧ PoolAt H l ∧ H a = some (.lst (words ws)) ∧ a ≠ l ∧ (∀ w ∈ ws, Steps w ∧ w.length ≤ 8) ∧ ws.length ≤ 900 ∧
  ∀ H' w, Touch [l] H H' → PoolAt H' l → Steps w → w.length ≤ 16 → Q (.str (tx w)) H'
section
variable {P : Program} {w : World} {K : PySem.W.Frag} {mg : Str → Option Value} {base : Heap} {f : Addr} {fd : FuncData}
def nsPool : List Str := ["_law_script", "_law_index", "_law_cell", "_law_number", "_law_seed"]
theorem scPool : FnScope nsPool ["_law_script", "_law_index"] (defScope lPool) := ⟨rfl, rfl, rfl, by decide +kernel, rfl, by decide +kernel, by decide +kernel⟩
theorem cut_ints (ns : List Int) (lo hi : Option Int) : ∃ ms : List Int, cutV (ns.map V.int) lo hi = ms.map V.int ∧ ms.length ≤ ns.length := by
  refine ⟨(ns.drop (HT.sIx ns.length 0 lo)).take (HT.sIx ns.length ns.length hi - HT.sIx ns.length 0 lo), ?_, ?_⟩
  · unfold cutV
    rw [List.length_map, ← List.map_drop, ← List.map_take]
  · rw [List.length_take, List.length_drop]; omega
theorem ok_pool (F : FnP K "_law_pool" lPool f fd) (B : Bi mg) : FnOk P w K mg base CX0 1 f fd ["_law_script", "_law_index"] (spPool K) := by
  refine F.ok scPool (fun vs H Q E h => ?_) (fun cdv A outer s H vs Q E hr h => ⟨_, PSs.nox (pss_cons (ps_set (i := 2) scPool.nd rfl (Or.inl rfl) (pe_ix ix_list (pe_op op_cat (pe_slice sl_list (pv 0) (po_some (pv 1)) (po_some (pe_op op_add (pv 1) pe_int))) (pe_lst (pa_cons pe_int pa_nil))) pe_int (fun _ _ => rfl)))
    (pss_cons (ps_set (i := 3) scPool.nd rfl (Or.inl rfl) (pe_callB (call_max2 rfl) rfl B.max (by decide +kernel) (pa_cons (pv 2) (pa_cons (pe_op op_sub (pe_un un_neg pe_int) (pv 2)) pa_nil))))
    (pss_cons (ps_set (i := 4) scPool.nd rfl (Or.inl rfl) (pe_op op_mod (pe_op op_mul (pe_op op_add (pe_op op_add (pe_op op_add (pe_op op_mod (pv 3) pe_int) (pe_op op_mul (pe_op op_mul pe_int (pv 1)) (pv 1))) (pe_op op_mul pe_int (pv 1))) pe_int) pe_int) pe_int))
    (pss_one (ps_ret (pe_lst (pa_cons (pe_op op_mul (pv 3) (pe_callTy call_int1 rfl B.int (by decide +kernel) (pa_cons (pe_cmpR op_ge (pv 3) (pe_op op_pow pe_int pe_int) (nomark _)) pa_nil))) (pa_cons (pe_op op_mod (pe_op op_mul (pv 4) (pv 4)) pe_int) pa_nil)))))))), ?_⟩)
  · obtain ⟨a, ns, i, rfl, _⟩ := h; rfl
  · obtain ⟨a, ns, i, rfl, ha, hnl, hi, q⟩ := h
    refine ⟨_, rfl, _, rfl, _, rfl, _, rfl, _, _, rfl, rfl, _, rfl, a, _, rfl, ha, fun p np => ?_⟩
    obtain ⟨ms, em, lm⟩ := cut_ints ns (some (i : Nat)) (some ((i : Nat) + 1))
    have s1 := same_new (o := .lst (ms.map V.int)) np
    rw [em]
    have hp1 := upd_same (H := H) (a := p) (o := .lst (ms.map V.int))
    refine ⟨(by show 1 ≤ sizeLine; decide), fun z nz => ?_⟩
    have s2 := s1.trans (same_new (o := .lst [.int 0]) nz)
    have hp2 := same_new (o := .lst [.int 0]) nz _ _ hp1
    refine ⟨p, z, _, _, rfl, rfl, hp2, upd_same, (by
      rw [List.length_map]
      have e6 : sizeLine = 16777216 := by decide
      rw [e6]
      show ms.length + 1 ≤ _
      omega), fun t nt => ?_⟩
    have s3 := s2.trans (same_new (o := .lst (ms.map V.int ++ [.int 0])) nt)
    obtain ⟨c, hc⟩ : ∃ c : Int, (ms.map V.int ++ [.int 0])[0]? = some (.int c) := by
      cases ms with
      | nil => exact ⟨0, rfl⟩
      | cons c r => exact ⟨c, rfl⟩
    refine ⟨t, _, 0, _, rfl, rfl, SqL.of upd_same, atI_nat (j := 0) hc, ?_⟩
    generalize L2.upd (L2.upd (L2.upd H p (.lst (ms.map V.int))) z (.lst [.int 0])) t (.lst (ms.map V.int ++ [.int 0])) = H3 at s3
    refine ⟨_, rfl, 1, rfl, _, rfl, _, _, rfl, rfl, _, _, rfl, ?_⟩
    obtain ⟨n, hn, hn0⟩ : ∃ n : Int, (if (-1 - c) > c then (-1 - c) else c) = n ∧ 0 ≤ n := ⟨_, rfl, by split <;> omega⟩
    rw [hn]
    have hmod0 : 0 ≤ n % 2147483629 := Int.emod_nonneg _ (by decide)
    have hmod1 : n % 2147483629 < 2147483629 := Int.emod_lt_of_pos _ (by decide)
    refine ⟨_, rfl, _, _, rfl, rfl, (by show (0 : Int) < 2147483629; decide), _, rfl, _, _, rfl, rfl, .inl ⟨by decide, by decide⟩, _, rfl, _, _, rfl, rfl, .inl ⟨by omega, by omega⟩, _, _, rfl, rfl, ?_⟩
    refine ⟨_, rfl, _, _, rfl, rfl, .inl ⟨by decide, by decide⟩, _, _, rfl, rfl, _, _, rfl, rfl, ?_⟩
    have hii : 0 ≤ 7919 * (i : Int) * (i : Int) ∧ 7919 * (i : Int) * (i : Int) ≤ 800000 := by
      have h1 : (i : Int) ≤ 10 := by omega
      have h0 : (0 : Int) ≤ i := by omega
      have h2 : 7919 * (i : Int) ≤ 79190 := by omega
      have h3 : 0 ≤ 7919 * (i : Int) := by omega
      refine ⟨Int.mul_nonneg h3 h0, ?_⟩
      have := Int.mul_le_mul h2 h1 h0 (by decide)
      omega
    have hs0 : 0 ≤ n % 2147483629 + 7919 * (i : Int) * (i : Int) + 31 * (i : Int) + 17 := by omega
    have hs1 : n % 2147483629 + 7919 * (i : Int) * (i : Int) + 31 * (i : Int) + 17 < 2 ^ 64 := by
      have : (2 : Int) ^ 64 = 18446744073709551616 := by decide
      omega
    refine ⟨_, _, rfl, rfl, .inl ⟨?_, hs1⟩, _, _, rfl, rfl, (by show (0 : Int) < 2147483647; decide), ?_⟩
    · have : -(2 : Int) ^ 64 = -18446744073709551616 := by decide
      show -(2 : Int) ^ 64 < n % 2147483629 + 7919 * (i : Int) * (i : Int) + 31 * (i : Int) + 17
      omega
    obtain ⟨sd, hsd, hd0, hd1⟩ : ∃ sd : Int, ((n % 2147483629 + 7919 * (i : Int) * (i : Int) + 31 * (i : Int) + 17) * 48271) % 2147483647 = sd ∧ 0 ≤ sd ∧ sd < 2147483647 := ⟨_, rfl, Int.emod_nonneg _ (by decide), Int.emod_lt_of_pos _ (by decide)⟩
    dsimp only
    rw [hsd]
    refine ⟨_, rfl, _, rfl, _, _, rfl, rfl, ⟨by decide, by decide, by decide⟩, _, _, rfl, rfl, .inr ⟨_, rfl, ?_⟩⟩
    have bit : ∀ b : Bool, -(2 : Int) ^ 64 < (if b = true then (1 : Int) else 0) ∧ (if b = true then (1 : Int) else 0) < 2 ^ 64 := fun b => by cases b <;> decide
    have bit2 : ∀ b : Bool, 0 ≤ n * (if b = true then (1 : Int) else 0) := fun b => by cases b <;> simp <;> omega
    refine ⟨_, _, rfl, rfl, .inr ⟨(bit _).1, (bit _).2⟩, ?_⟩
    refine ⟨_, rfl, _, rfl, _, _, rfl, rfl, .inl ⟨?_, ?_⟩, _, _, rfl, rfl, (by show (0 : Int) < 2147483629; decide), (by show 2 ≤ sizeLine; decide), fun l nl => ?_⟩
    · have : -(2 : Int) ^ 64 = -18446744073709551616 := by decide
      show -(2 : Int) ^ 64 < sd
      omega
    · have : (2 : Int) ^ 64 = 18446744073709551616 := by decide
      show sd < (2 : Int) ^ 64
      omega
    refine q _ l (s3.trans (same_new nl)) (s3.free nl) ⟨_, _, upd_same, bit2 _, Int.emod_nonneg _ (by decide), ?_⟩
    · have : sd * sd % 2147483629 < 2147483629 := Int.emod_lt_of_pos _ (by decide)
      omega
end
end K73
set_option Elab.async false
set_option linter.all false
set_option maxRecDepth 100000
set_option maxHeartbeats 4000000
/-! K73LawE: draws, drawn paths. -/
namespace K73
open PySem PySem.Spec PyProof.Rows L2
theorem invW_steps {w : List Nat} (h : Steps w) : Steps (invW w) := fun c hc => by
  obtain ⟨d, hd, rfl⟩ := List.mem_map.mp hc
  exact inv_step (h d (List.mem_reverse.mp hd))
theorem invW_len {w : List Nat} : (invW w).length = w.length := by unfold invW; rw [List.length_map, List.length_reverse]
theorem str_ok {w : List Nat} (h : Steps w) : PyData.strOk (tx w) = true := by
  unfold PyData.strOk
  rw [← Array.all_toList, tx_cps, List.all_eq_true]
  intro c hc
  rcases h c hc with rfl | rfl | rfl | rfl | rfl | rfl | rfl | rfl <;> decide
theorem words_plain {K : PySem.W.Frag} {H : Hp} {ws : List (List Nat)} (h : ∀ w ∈ ws, Steps w) : ∀ x ∈ words ws, Plain K H x := fun x hx => by
  obtain ⟨w, hw, rfl⟩ := List.mem_map.mp hx
  exact ⟨_, .str _, by simp [PyData.canLay0, str_ok (h w hw)], by simp [PyData.depth]⟩
section
variable {P : Program} {w : World} {K : PySem.W.Frag} {mg : Str → Option Value} {base : Heap} {f : Addr} {fd : FuncData}
def nsDraw : List Str := ["_law_pool_here", "_law_bound", "_law_digit"]
theorem scDraw : FnScope nsDraw ["_law_pool_here", "_law_bound"] (defScope lDraw) := ⟨rfl, rfl, rfl, by decide +kernel, rfl, by decide +kernel, by decide +kernel⟩
theorem ok_draw (F : FnP K "_law_draw" lDraw f fd) : FnOk P w K mg base CX0 1 f fd ["_law_pool_here", "_law_bound"] spDraw := by
  refine F.ok scDraw (fun vs H Q E h => ?_) (fun cdv A outer s H vs Q E hr h => ⟨_, PSs.nox (pss_cons (ps_if (pt_cmpR op_gt (pe_ix ix_list (pv 0) pe_int (fun _ _ => rfl)) pe_int (nomark _))
      (pss_cons (ps_set (i := 2) scDraw.nd rfl (Or.inl rfl) (pe_op op_mod (pe_ix ix_list (pv 0) pe_int (fun _ _ => rfl)) (pv 1))) (pss_cons (ps_asg (pe_op op_fdiv (pe_ix ix_list (pv 0) pe_int (fun _ _ => rfl)) (pv 1)) (pg_sub (pv 0) pe_int set_list)) (pss_one (ps_ret (pv 2))))) pss_nil)
    (pss_cons (ps_asg (pe_op op_mod (pe_op op_add (pe_op op_mul (pe_ix ix_list (pv 0) pe_int (fun _ _ => rfl)) pe_int) pe_int) pe_int) (pg_sub (pv 0) pe_int set_list))
    (pss_one (ps_ret (pe_op op_mod (pe_op op_fdiv (pe_op op_mod (pe_op op_mul (pe_ix ix_list (pv 0) pe_int (fun _ _ => rfl)) (pe_ix ix_list (pv 0) pe_int (fun _ _ => rfl))) pe_int) pe_int) (pv 1)))))), ?_⟩)
  · obtain ⟨l, b, rfl, _⟩ := h; rfl
  · obtain ⟨l, b, rfl, ⟨x, y, hl, hx, hy, hy2⟩, hb, hb2, q⟩ := h
    have p64 : (2 : Int) ^ 64 = 18446744073709551616 := by decide
    have fin : ∀ (z : Int) (H' : Hp), 0 ≤ z → Touch [l] H H' → PoolAt H' l → Q (.int (z % (b : Int))) H' := fun z H' hz t p => by
      have h0 : 0 ≤ z % (b : Int) := Int.emod_nonneg _ (by omega)
      have h1 : z % (b : Int) < b := Int.emod_lt_of_pos _ (by omega)
      have e : z % (b : Int) = ((z % (b : Int)).toNat : Nat) := (Int.toNat_of_nonneg h0).symm
      rw [e]
      exact q _ _ (by omega) t p
    refine ⟨_, rfl, l, _, 0, .int x, rfl, rfl, SqL.of hl, atI_nat (j := 0) rfl, _, _, rfl, rfl, _, rfl, iteD (fun hp => ?_) fun hn => ?_⟩
    · refine ⟨_, rfl, l, _, 0, .int x, rfl, rfl, SqL.of hl, atI_nat (j := 0) rfl, _, rfl, _, _, rfl, rfl, (by show (0 : Int) < b; omega), ?_⟩
      refine ⟨_, rfl, l, _, 0, .int x, rfl, rfl, SqL.of hl, atI_nat (j := 0) rfl, _, rfl, _, _, rfl, rfl, ⟨by omega, by omega⟩, ?_⟩
      refine ⟨_, rfl, l, _, 0, 0, rfl, rfl, hl, rfl, ?_⟩
      refine ⟨_, rfl, ?_⟩
      exact fin x _ hx (Touch.upd (by simp)) ⟨x / (b : Int), y, upd_same, Int.ediv_nonneg hx (by omega), hy, hy2⟩
    · refine ⟨_, rfl, l, _, 1, .int y, rfl, rfl, SqL.of hl, atI_nat (j := 1) rfl, _, _, rfl, rfl, .inl ⟨by omega, by omega⟩, _, _, rfl, rfl, _, _, rfl, rfl, (by show (0 : Int) < 2147483647; decide), ?_⟩
      refine ⟨_, rfl, l, _, 1, 1, rfl, rfl, hl, rfl, ?_⟩
      have n0 : 0 ≤ (y * 48271 + 12345) % 2147483647 := Int.emod_nonneg _ (by decide)
      have n1 : (y * 48271 + 12345) % 2147483647 < 2147483647 := Int.emod_lt_of_pos _ (by decide)
      have hl2 : L2.upd H l (.lst [.int x, .int ((y * 48271 + 12345) % 2147483647)]) l = some (.lst [.int x, .int ((y * 48271 + 12345) % 2147483647)]) := upd_same
      have t2 : Touch [l] H (L2.upd H l (.lst [.int x, .int ((y * 48271 + 12345) % 2147483647)])) := Touch.upd (by simp)
      dsimp only [List.set]
      generalize L2.upd H l (.lst [.int x, .int ((y * 48271 + 12345) % 2147483647)]) = H2 at hl2 t2
      generalize (y * 48271 + 12345) % 2147483647 = y2 at n0 n1 hl2
      refine ⟨_, rfl, l, _, 1, .int y2, rfl, rfl, SqL.of hl2, atI_nat (j := 1) rfl, _, rfl, l, _, 1, .int y2, rfl, rfl, SqL.of hl2, atI_nat (j := 1) rfl, _, _, rfl, rfl, .inl ⟨by omega, by omega⟩, _, _, rfl, rfl, (by show (0 : Int) < 2147483629; decide), _, _, rfl, rfl, ⟨by decide, by decide⟩, ?_⟩
      refine ⟨_, rfl, _, _, rfl, rfl, (by show (0 : Int) < b; omega), ?_⟩
      exact fin _ H2 (Int.ediv_nonneg (Int.emod_nonneg _ (by decide)) (by decide)) t2 ⟨x, y2, hl2, hx, n0, n1⟩
def nsPath : List Str := ["_law_pool_here", "_law_longest", "_law_letters", "_law_number"]
def psPath : List Str := ["_law_pool_here", "_law_longest", "_law_letters"]
theorem scPath : FnScope nsPath psPath (defScope lPath) := ⟨rfl, rfl, rfl, by decide +kernel, rfl, by decide +kernel, by decide +kernel⟩
theorem ok_path (F : FnP K "_law_path" lPath f fd) (B : Bi mg) (ZD : Has P w K mg base 1 "_law_draw" ["_law_pool_here", "_law_bound"] spDraw) : FnOk P w K mg base CX0 2 f fd psPath spPath := by
  refine F.ok scPath (fun vs H Q E h => ?_) (fun cdv A outer s H vs Q E hr h => ⟨_, PSs.nox (pss_one (ps_ret (pe_join pe_str (pe_lc (own := [("_law_number", 3)]) (g := gName 3) (tt := tYes) rfl scPath.nd (pi_range1 (by rfl) B.range (pa_cons (pe_h ZD hr (pa_cons (pv 0) (pa_cons (pe_op op_add (pv 1) pe_int) pa_nil))) pa_nil)) (blkOk_by (N := nsPath) (sc := defScope lPath) (by decide +kernel))
          (fun _ _ _ _ _ => pg_name (i := 3) scPath.nd rfl (Or.inl rfl)) (fun _ _ _ _ _ => pts_nil) (fun _ _ _ _ _ => pe_ix ix_str pe_str (pe_h ZD hr (pa_cons (pv 0) (pa_cons (pe_op op_mul pe_int (pv 2)) pa_nil))) (fun _ _ => rfl)))))), ?_⟩)
  · obtain ⟨l, rfl, _⟩ := h; rfl
  · obtain ⟨l, rfl, hp, q⟩ := h
    refine ⟨⟨_, rfl⟩, ?_⟩
    refine ⟨_, rfl, _, rfl, _, _, rfl, rfl, l, 5, rfl, hp, by decide, by decide, fun H1 d hd t1 p1 => ?_⟩
    refine ⟨(d : Int), rfl, (by show -(2 ^ 62 : Int) ≤ d; omega), (by show (d : Int) < 2 ^ 62; omega), fun D nD => ?_⟩
    have s2 := same_new (o := .lst []) nD
    obtain ⟨_, hl1⟩ := p1.lst
    have ld : D ≠ l := (ne_of_none hl1 nD).symm
    refine lc_it walk_range (fun i H' => ∃ w : List Nat, Touch [l] H H' ∧ PoolAt H' l ∧ Steps w ∧ w.length = i ∧ H' D = some (.lst (signs w))) ⟨[], t1.trans (Touch.of s2), p1.same s2, fun c hc => (nomatch hc), rfl, upd_same⟩ (fun _ _ _ _ => trivial) (fun i x H2 H3 hi p y => ?_) (fun H2 p => ?_)
    · obtain ⟨w, t2, p2, hw, hwl, hD⟩ := p
      obtain ⟨rfl, rfl⟩ := y
      refine ⟨rfl, _, rfl, _, rfl, _, _, rfl, rfl, .inl ⟨by decide, by decide⟩, l, 4, rfl, p2, by decide, by decide, fun H4 e he t4 p4 => ?_⟩
      have hD4 : H4 D = some (.lst (signs w)) := t4 _ _ hD (by simpa using ld)
      have e8 : e < stepsL.length := by show e < 8; omega
      have es : stepsL[e]? = some stepsL[e] := List.getElem?_eq_getElem e8
      have ix : atI ("aAbBcCdD" : Str).cps.toList ((e : Nat) : Int) = some stepsL[e] := by rw [steps_tx, tx_cps]; exact atI_nat es
      refine ⟨_, _, _, rfl, rfl, (by decide +kernel), ix, signs w, hD4, ?_, w ++ [stepsL[e]], ?_, ?_, ?_, ?_, ?_⟩
      · rw [signs_len, hwl]; exact Nat.lt_of_lt_of_le hi (Nat.le_trans (show d ≤ 5 by omega) (by decide))
      · intro b u hb n
        have := (t2.trans t4) b u hb n
        have nbD : b ≠ D := fun z => by
          rw [z] at hb n
          have := t1 _ _ hb n
          rw [nD] at this
          cases this
        rw [upd_ne nbD]
        exact this
      · obtain ⟨x', y', h, r⟩ := p4
        exact ⟨x', y', by rw [upd_ne ld.symm]; exact h, r⟩
      · intro c hc
        rcases List.mem_append.mp hc with z | z
        · exact hw c z
        · rw [List.mem_singleton.mp z]; exact isStep_iff.mpr (List.mem_of_getElem? es)
      · rw [List.length_append, hwl]; rfl
      · rw [upd_same]; unfold signs; rw [List.map_append]; rfl
    · obtain ⟨w, t2, p2, hw, hwl, hD⟩ := p
      have hwl : w.length = d := hwl
      refine ⟨tx [], D, w.map ch, congrArg V.str empty_tx, rfl, .inl (SqL.of (by rw [hD]; unfold signs; rw [List.map_map]; rfl)), ?_, ?_⟩
      · rw [sum_ch, List.length_map, tx_len]
        have e3 : ([] : List Nat).length = 0 := rfl
        rw [e3]; omega
      · rw [join_signs]
        exact q _ w t2 p2 hw (by omega)
def nsProduct : List Str := ["_law_pool_here", "_law_paths", "_law_most", "_law_result", "_law_number", "_law_one"]
def psProduct : List Str := ["_law_pool_here", "_law_paths", "_law_most"]
theorem scProduct : FnScope nsProduct psProduct (defScope lProduct) := ⟨rfl, rfl, rfl, by decide +kernel, rfl, by decide +kernel, by decide +kernel⟩
theorem ok_product (F : FnP K "_law_product" lProduct f fd) (B : Bi mg) (ZD : Has P w K mg base 1 "_law_draw" ["_law_pool_here", "_law_bound"] spDraw) (ZR : Has P w K mg base 2 "_law_reversed" ["_law_path_here"] spRev) : FnOk P w K mg base CX0 3 f fd psProduct (spProduct K) := by
  refine F.ok scProduct (fun vs H Q E h => ?_) (fun cdv A outer s H vs Q E hr h => ⟨_, PSs.nox (pss_cons (ps_set (i := 3) scProduct.nd rfl (Or.inl rfl) pe_str)
    (pss_cons (ps_for PassesOwn.never rfl (pi_range1 (by rfl) B.range (pa_cons (pe_h ZD (hr.mono (by decide)) (pa_cons (pv 0) (pa_cons (pe_op op_add (pv 2) pe_int) pa_nil))) pa_nil)) (pg_name (i := 4) scProduct.nd rfl (Or.inl rfl))
      (pss_one (ps_if (pt_cmpR (op_neD (room64 hr)) (pv 1) (pe_lst pa_nil) (nomark _))
        (pss_cons (ps_set (i := 5) scProduct.nd rfl (Or.inl rfl) (pe_ix ix_list (pv 1) (pe_h ZD (hr.mono (by decide)) (pa_cons (pv 0) (pa_cons (pe_callB call_len_seq rfl B.len PySem.boot_len (pa_cons (pv 1) pa_nil)) pa_nil))) (fun _ _ => rfl)))
        (pss_one (ps_set (i := 3) scProduct.nd rfl (Or.inl rfl) (pe_op op_add_str (pv 3) (pe_ix ix_list (pe_lst (pa_cons (pv 5) (pa_cons (pe_h ZR hr (pa_cons (pv 5) pa_nil)) pa_nil))) (pe_h ZD (hr.mono (by decide)) (pa_cons (pv 0) (pa_cons pe_int pa_nil))) (fun _ _ => rfl)))))) pss_nil)))
    (pss_one (ps_ret (pv 3))))), ?_⟩)
  · obtain ⟨l, a, ws, rfl, _⟩ := h; rfl
  · obtain ⟨l, a, ws, rfl, hp, ha, al, hws, hlen, q⟩ := h
    have lw : (words ws).length = ws.length := by rw [words, List.length_map]
    refine ⟨_, rfl, _, rfl, _, _, rfl, rfl, l, 3, rfl, hp, by decide, by decide, fun H1 d hd t1 p1 => ?_⟩
    refine ⟨(d : Int), rfl, (by show -(2 ^ 62 : Int) ≤ d; omega), (by show (d : Int) < 2 ^ 62; omega), ?_⟩
    refine for_range (lo := 0) (n := d) (fun i σ H' => ∃ (w : List Nat) (z1 z2 : Option V), σ = [some (.ref l), some (.ref a), some (.int 2), some (.str (tx w)), z1, z2] ∧ Touch [l] H H' ∧ PoolAt H' l ∧ Steps w ∧ w.length ≤ 8 * i)
      ⟨[], none, none, (by rw [← empty_tx]; rfl), t1, p1, fun c hc => (nomatch hc), Nat.le_refl _⟩ (fun i σ H2 hi p => ?_) (fun σ H2 p => ?_)
    · obtain ⟨w, z1, z2, rfl, t2, p2, hw, hwl⟩ := p
      have ha2 := t2 _ _ ha (by simpa using al)
      refine ⟨_, rfl, Nat.zero_le _, fun m nm => ?_⟩
      have s3 := same_new (o := .lst []) nm
      refine rNe_nil (SqL.of (s3 _ _ ha2)) (words_plain fun w hw => (hws w hw).1) (SqL.of upd_same) ⟨_, rfl, ?_⟩
      have t3 := t2.trans (Touch.of s3)
      have p3 := p2.same s3
      have ha3 := s3 _ _ ha2
      generalize L2.upd H2 m (.lst []) = H3 at t3 p3 ha3
      cases hws0 : ws with
      | nil => exact iteF ⟨w, _, _, rfl, t3, p3, hw, by omega⟩
      | cons w0 wr =>
        rw [hws0] at ha3 lw hlen
        have hws1 : ∀ w ∈ w0 :: wr, Steps w ∧ w.length ≤ 8 := fun w hw => hws w (by rw [hws0]; exact hw)
        refine iteT ?_
        refine ⟨_, rfl, _, rfl, _, rfl, a, _, rfl, .inl (SqL.of ha3), ?_⟩
        rw [lw]
        refine ⟨l, (w0 :: wr).length, rfl, p3, Nat.succ_le_succ (Nat.zero_le _), by omega, fun H4 e he t4 p4 => ?_⟩
        have ha4 := t4 _ _ ha3 (by simpa using al)
        have eo : (w0 :: wr)[e]? = some (w0 :: wr)[e] := List.getElem?_eq_getElem he
        generalize (w0 :: wr)[e] = one at eo
        obtain ⟨h1, h2⟩ := hws1 one (List.mem_of_getElem? eo)
        have ei : (words (w0 :: wr))[e]? = some (.str (tx one)) := by rw [words, List.getElem?_map, eo]; rfl
        refine ⟨a, _, (e : Int), _, rfl, rfl, SqL.of ha4, atI_nat ei, ?_⟩
        refine ⟨_, rfl, _, rfl, _, rfl, one, rfl, h1, by omega, fun H5 s5 => ?_⟩
        refine ⟨(by show 2 ≤ sizeLine; decide), fun l2 nl2 => ?_⟩
        have s6 := s5.trans (same_new (o := .lst [.str (tx one), .str (tx (invW one))]) nl2)
        have hl2 := upd_same (H := H5) (a := l2) (o := .lst [.str (tx one), .str (tx (invW one))])
        have p6 := p4.same s6
        have t6 := (t3.trans t4).trans (Touch.of s6)
        obtain ⟨_, hl6⟩ := p4.lst
        have ll : l2 ≠ l := fun z => by rw [z] at nl2; rw [s5 _ _ hl6] at nl2; cases nl2
        generalize L2.upd H5 l2 (.lst [.str (tx one), .str (tx (invW one))]) = H6 at s6 hl2 p6 t6
        refine ⟨_, rfl, l, 2, rfl, p6, by decide, by decide, fun H7 g hg t7 p7 => ?_⟩
        have hl7 := t7 _ _ hl2 (by simpa using ll)
        have pick : ∃ v, Steps v ∧ v.length ≤ 8 ∧ ([V.str (tx one), V.str (tx (invW one))] : List V)[g]? = some (.str (tx v)) := by
          have hcase : g = 0 ∨ g = 1 := by omega
          rcases hcase with rfl | rfl
          · exact ⟨one, h1, h2, rfl⟩
          · exact ⟨invW one, invW_steps h1, by rw [invW_len]; exact h2, rfl⟩
        obtain ⟨v, v1, v2, ev⟩ := pick
        refine ⟨l2, _, (g : Int), _, rfl, rfl, SqL.of hl7, atI_nat ev, _, _, rfl, rfl, ?_, ?_⟩
        · rw [tx_len, tx_len]
          have e6 : sizeLine = 16777216 := by decide
          rw [e6]; omega
        · refine ⟨w ++ v, some (.int (0 + (i : Nat))), some (.str (tx one)), ?_, t6.trans t7, p7, fun c hc => (List.mem_append.mp hc).elim (hw c) (v1 c), by rw [List.length_append]; omega⟩
          rw [← tx_app]
          rfl
    · obtain ⟨w, z1, z2, rfl, t2, p2, hw, hwl⟩ := p
      exact ⟨_, rfl, q _ w t2 p2 hw (by omega)⟩
end
end K73
set_option Elab.async false
set_option linter.all false
set_option maxRecDepth 100000
set_option maxHeartbeats 4000000
/-! K73LawF: the law's model; what is current. -/
namespace K73
open PySem PySem.Spec PyProof.Rows L2
abbrev lCurrent : Stmt := topS 59
abbrev lListed : Stmt := topS 60
/-- the law's model -/
structure MA where
  m : Addr
  a : Addr
  c : Addr
  k : Addr
structure MB (H : Hp) (o : MA) (added : List (List Nat)) (cs : List Chg) (n : Nat) (LM : List V) : Prop where
  m : H o.m = some (.lst [.ref o.a, .ref o.c, .ref o.k])
  a : H o.a = some (.lst (words added))
  c : H o.c = some (.lst LM)
  k : H o.k = some (.lst [.int (n : Nat)])
  r : CRel H LM cs
  d : [o.m, o.a, o.c, o.k].Nodup
theorem MB.same {H H' : Hp} {o : MA} {added : List (List Nat)} {cs : List Chg} {n : Nat} {LM : List V} (B : MB H o added cs n LM) (s : Same H H') : MB H' o added cs n LM :=
  ⟨s _ _ B.m, s _ _ B.a, s _ _ B.c, s _ _ B.k, B.r.to (samT s), B.d⟩
def nums (l : List Nat) : List V := l.map fun (i : Nat) => V.int (i : Nat)
def spCurrent : Sp := fun vs H Q _ => ∃ (o : MA) (added : List (List Nat)) (cs : List Chg) (n : Nat) (LM : List V), vs = [.ref o.m] ∧ MB H o added cs n LM ∧ cs.length ≤ 1000 ∧ added.length ≤ 900 ∧ ∀ H' l, Same H H' → H l = none → H' l = some (.lst (nums (curL added cs))) → Q (.ref l) H'
def spListed : Sp := fun vs H Q _ => ∃ (o : MA) (added : List (List Nat)) (cs : List Chg) (n : Nat) (LM : List V), vs = [.ref o.m] ∧ MB H o added cs n LM ∧ cs.length ≤ 1000 ∧ added.length ≤ 900 ∧ ∀ H' l, Same H H' → H l = none → H' l = some (.lst (words (curW added cs))) → Q (.ref l) H'
theorem take_cur (added : List (List Nat)) (cs : List Chg) : nums ((List.range added.length).filter (cur cs)) = nums (curL added cs) := rfl
section
variable {P : Program} {w : World} {K : PySem.W.Frag} {mg : Str → Option Value} {base : Heap} {f : Addr} {fd : FuncData}
def nsCurrent : List Str := ["_law_model", "_law_numbers", "_law_entry", "_law_words", "_law_change_here"]
theorem scCurrent : FnScope nsCurrent ["_law_model"] (defScope lCurrent) := ⟨rfl, rfl, rfl, by decide +kernel, rfl, by decide +kernel, by decide +kernel⟩
theorem ok_current (F : FnP K "_law_current" lCurrent f fd) (B : Bi mg) : FnOk P w K mg base CX0 1 f fd ["_law_model"] spCurrent := by
  refine F.ok scCurrent (fun vs H Q E h => ?_) (fun cdv A outer s H vs Q E hr h => ⟨_, PSs.nox (pss_cons (ps_set (i := 1) scCurrent.nd rfl (Or.inl rfl) (pe_lst pa_nil))
    (pss_cons (ps_for PassesOwn.never rfl (pi_range1 (by rfl) B.range (pa_cons (pe_callB call_len_seq rfl B.len PySem.boot_len (pa_cons (pe_ix ix_list (pv 0) pe_int (fun _ _ => rfl)) pa_nil)) pa_nil)) (pg_name (i := 2) scCurrent.nd rfl (Or.inr rfl))
      (pss_cons (ps_setLc (i := 3) (own := [("_law_change_here", 4)]) (g := gName 4) rfl scCurrent.nd rfl rfl (sw_true rfl rfl rfl (by decide +kernel)) (pi_list (pe_ix ix_list (pv 0) pe_int (fun _ _ => rfl))) (blkOk_by (N := nsCurrent) (sc := defScope lCurrent) (by decide +kernel))
          (fun _ _ _ _ _ => pg_name (i := 4) scCurrent.nd rfl (Or.inl rfl))
          (fun _ _ _ _ _ => pts_one (pt_cmpR op_eq (pe_ix (show IxR _ (rIxT K) from ix_tup) (pv 4) pe_int (fun _ _ => rfl)) (pv 2) (nomark _))) (fun _ _ _ _ _ => pe_ix (show IxR _ (rIxT K) from ix_tup) (pv 4) pe_int (fun _ _ => rfl)))
      (pss_one (ps_if (PW.pt (pw_and (pt_cmpR op_in_seq pe_str (pv 3) rfl) (pw_and1 (pt_cmpR op_notIn_seq pe_str (pv 3) rfl))))
        (pss_one (ps_expr (pe_bm PySem.F.plainAttrs_list PySem.F.slot_list_append PySem.F.type_list_append mt_append (pv 1) (pa_cons (pv 2) pa_nil)))) pss_nil))))
    (pss_one (ps_ret (pv 1))))), ?_⟩)
  · obtain ⟨o, added, cs, n, LM, rfl, _⟩ := h; rfl
  · obtain ⟨o, added, cs, n, LM, rfl, M, hz, hza, q⟩ := h
    have la : (words added).length = added.length := by rw [words, List.length_map]
    refine ⟨Nat.zero_le _, fun r nr => ?_⟩
    have s1 := same_new (o := .lst []) nr
    have M1 := M.same s1
    refine ⟨_, rfl, o.m, _, 0, _, rfl, rfl, SqL.of M1.m, atI_nat (j := 0) rfl, o.a, _, rfl, .inl (SqL.of M1.a), ?_⟩
    rw [la]
    refine ⟨(added.length : Int), rfl, (by show -(2 ^ 62 : Int) ≤ added.length; omega), (by show (added.length : Int) < 2 ^ 62; omega), ?_⟩
    refine for_range (lo := 0) (n := added.length) (fun i σ H' => ∃ (z1 z2 z3 : Option V), σ = [some (.ref o.m), some (.ref r), z1, z2, z3] ∧ Same H H' ∧ H' r = some (.lst (nums ((List.range i).filter (cur cs)))))
      ⟨_, _, _, rfl, s1, upd_same⟩ (fun i σ H2 hi p => ?_) (fun σ H2 p => ?_)
    · obtain ⟨z1, z2, z3, rfl, s2, hr2⟩ := p
      have e0 : (0 + (i : Int)) = (i : Int) := Int.zero_add _
      rw [e0]
      have M2 := M.same s2
      refine ⟨_, rfl, o.m, _, 1, _, rfl, rfl, SqL.of M2.m, atI_nat (j := 1) rfl, o.c, rfl, ⟨_, SqL.of M2.c⟩, fun D nD => ?_⟩
      refine lc_filt walk_list (fun j => decide ((cs[j]?.getD (0, false, 0)).2.2 = i)) (fun j => V.str (wd (cs[j]?.getD (0, false, 0)).2.1)) (by rw [M.r.1]; exact Nat.le_trans hz (by decide)) (fun H' s' => SqL.of (s' _ _ M2.c)) nD (fun j x H1 H2 Q2 N hj s1 y k1 k2 => ?_) (fun H3 s3 hD => ?_)
      · obtain ⟨rfl, ex⟩ := y
        rw [M.r.1] at hj
        have ec : cs[j]? = some cs[j] := List.getElem?_eq_getElem hj
        obtain ⟨b, e1, e2⟩ := M2.r.2 j cs[j] ec
        rw [ex] at e1
        cases e1
        rw [ec] at k1 k2
        have hb := s1 _ _ e2
        refine ⟨rfl, _, rfl, b, _, 2, _, rfl, rfl, SqT.of hb, atI_nat (j := 2) rfl, _, rfl, rfl, _, rfl, ?_⟩
        by_cases z : cs[j].2.2 = i
        · refine iteTb (decide_eq_true (by rw [z])) ?_
          exact ⟨_, rfl, b, _, 1, _, rfl, rfl, SqT.of hb, atI_nat (j := 1) rfl, k1 (decide_eq_true z) _ (Same.refl _)⟩
        · refine iteFb (decide_eq_false (fun q => z (by have := V.int.inj q; omega))) ?_
          exact k2 (decide_eq_false z) _ (Same.refl _)
      · rw [M.r.1] at hD
        have hD : H3 D = some (.lst (selW cs i)) := hD
        have s23 := s2.trans s3
        have hr3 := s3 _ _ hr2
        have fl := words_flat cs i
        have cw := cur_words cs i
        have rs : (List.range (i + 1)).filter (cur cs) = (List.range i).filter (cur cs) ++ (if cur cs i = true then [i] else []) := by
          rw [List.range_succ, List.filter_append]
          congr 1
          by_cases z : cur cs i = true
          · rw [if_pos z, List.filter_cons_of_pos z]; rfl
          · rw [if_neg z, List.filter_cons_of_neg z]; rfl
        have no : ∀ zz : Option V, cur cs i = false → ∃ (z1 z2 z3 : Option V), ([some (.ref o.m), some (.ref r), some (.int (i : Nat)), some (.ref D), zz] : Sl) = [some (.ref o.m), some (.ref r), z1, z2, z3] ∧ Same H H3 ∧ H3 r = some (.lst (nums ((List.range (i + 1)).filter (cur cs)))) := fun zz z =>
          ⟨_, _, _, rfl, s23, by rw [hr3, rs, if_neg (by rw [z]; decide), List.append_nil]⟩
        refine ⟨_, rfl, D, _, rfl, .inl (SqL.of hD), rfl, fl, _, rfl, ?_⟩
        cases h1 : inV (.str "add") (selW cs i) with
        | false =>
          rw [h1] at cw
          exact iteFb rfl (no _ cw)
        | true =>
          rw [h1, Bool.true_and] at cw
          refine iteTb rfl ?_
          refine ⟨_, rfl, D, _, rfl, .inl (SqL.of hD), rfl, fl, _, rfl, ?_⟩
          cases h2 : inV (.str "remove") (selW cs i) with
          | true =>
            rw [h2] at cw
            exact iteFb rfl (no _ cw)
          | false =>
            rw [h2] at cw
            refine iteTb rfl ?_
            refine ⟨_, rfl, .inl ⟨rfl, _, SqL.of hr3⟩, _, rfl, r, _, _, rfl, rfl, hr3, ?_, ?_⟩
            · refine Nat.lt_of_le_of_lt (show _ ≤ 1000 from ?_) (by decide)
              rw [nums, List.length_map]
              have := List.length_filter_le (cur cs) (List.range i)
              rw [List.length_range] at this
              omega
            · refine ⟨_, _, _, rfl, same_upd s23 nr, ?_⟩
              rw [upd_same, rs, if_pos (show cur cs i = true from cw), nums, nums, List.map_append]
              rfl
    · obtain ⟨z1, z2, z3, rfl, s2, hr2⟩ := p
      exact ⟨_, rfl, q _ r s2 nr hr2⟩
def nsListed : List Str := ["_law_model", "_law_entry"]
theorem scListed : FnScope nsListed ["_law_model"] (defScope lListed) := ⟨rfl, rfl, rfl, by decide +kernel, rfl, by decide +kernel, by decide +kernel⟩
theorem ok_listed (F : FnP K "_law_listed" lListed f fd) (ZC : Has P w K mg base 1 "_law_current" ["_law_model"] spCurrent) : FnOk P w K mg base CX0 2 f fd ["_law_model"] spListed := by
  refine F.ok scListed (fun vs H Q E h => ?_) (fun cdv A outer s H vs Q E hr h => ⟨_, PSs.nox (pss_one (ps_ret (pe_lc (own := [("_law_entry", 1)]) (g := gName 1) (tt := tYes) rfl scListed.nd (pi_list (pe_h ZC hr (pa_cons (pv 0) pa_nil))) (blkOk_by (N := nsListed) (sc := defScope lListed) (by decide +kernel))
          (fun _ _ _ _ _ => pg_name (i := 1) scListed.nd rfl (Or.inl rfl)) (fun _ _ _ _ _ => pts_nil) (fun _ _ _ _ _ => pe_ix (show IxR _ (rIxL K) from ix_list) (pe_ix (show IxR _ (rIxL K) from ix_list) (pv 0) pe_int (fun _ _ => rfl)) (pv 1) (fun _ _ => rfl))))), ?_⟩)
  · obtain ⟨o, added, cs, n, LM, rfl, _⟩ := h; rfl
  · obtain ⟨o, added, cs, n, LM, rfl, M, hz, hza, q⟩ := h
    refine ⟨_, rfl, o, added, cs, n, LM, rfl, M, hz, hza, fun H1 l s1 nl hl => ?_⟩
    refine ⟨l, rfl, ⟨_, SqL.of hl⟩, fun D nD => ?_⟩
    have M1 := M.same s1
    have ll : (nums (curL added cs)).length = (curL added cs).length := by rw [nums, List.length_map]
    have cl := curL_len (added := added) (cs := cs)
    refine lc_map walk_list (fun i => V.str (tx ((curW added cs)[i]?.getD []))) (by rw [ll]; exact Nat.le_trans cl (Nat.le_trans hza (by decide))) (fun H' s' => SqL.of (s' _ _ hl)) nD (fun i x H2 H3 Q2 hi s3 y k => ?_) (fun H2 s3 hD => ?_)
    · obtain ⟨rfl, e1⟩ := y
      rw [ll] at hi
      have ej : (curL added cs)[i]? = some (curL added cs)[i] := List.getElem?_eq_getElem hi
      generalize (curL added cs)[i] = j at ej
      rw [nums, List.getElem?_map, ej] at e1
      cases e1
      have hj : j < added.length := List.mem_range.mp (List.mem_filter.mp (List.mem_of_getElem? ej)).1
      have ea : added[j]? = some added[j] := List.getElem?_eq_getElem hj
      have ew : (words added)[j]? = some (.str (tx added[j])) := by rw [words, List.getElem?_map, ea]; rfl
      have ec : (curW added cs)[i]? = some added[j] := by rw [curW, List.getElem?_map, ej]; show some (added[j]?.getD []) = _; rw [ea]; rfl
      rw [ec] at k
      have M2 := M1.same s3
      exact ⟨rfl, _, rfl, o.m, _, 0, _, rfl, rfl, SqL.of M2.m, atI_nat (j := 0) rfl, _, rfl, o.a, _, (j : Nat), _, rfl, rfl, SqL.of M2.a, atI_nat ew, k _ (Same.refl _)⟩
    · rw [ll] at hD
      have hcl : (curL added cs).length = (curW added cs).length := by rw [curW, List.length_map]
      rw [hcl] at hD
      have e5 : (List.range (curW added cs).length).map (fun i => V.str (tx ((curW added cs)[i]?.getD []))) = words (curW added cs) := by
        rw [words, ← range_map_get V.non (fun w => V.str (tx w)) (curW added cs)]
        refine List.map_congr_left fun i hi => ?_
        rw [List.getElem?_eq_getElem (List.mem_range.mp hi)]
        rfl
      rw [e5] at hD
      refine q _ D (s1.trans s3) ?_ hD
      cases e : H D with
      | none => rfl
      | some u => rw [s1 _ _ e] at nD; cases nD
end
end K73
set_option Elab.async false
set_option linter.all false
set_option maxRecDepth 100000
set_option maxHeartbeats 4000000
/-! K73LawG: one change, in plain; the law's undo. -/
namespace K73
open PySem PySem.Spec PyProof.Rows L2
abbrev lUndone : Stmt := topS 61
/-! ### one change, in plain -/
/-- what a change answers -/
inductive Rs where
  | add (e : Nat) (k : Bool)
  | rem
  | ent (e : Nat)
  | nth (u : Nat)
  | und (b : Bool) (e : Nat)
def Rs.vs : Rs → List V
  | .add e k => [.str "add", .int (e : Nat), .bl k]
  | .rem => [.str "remove"]
  | .ent e => [.str "entry", .str (toString ((e : Nat) : Int))]
  | .nth u => [.str "nothing", .int (u : Nat)]
  | .und b e => [.str "undo", .str (wd b), .int (e : Nat)]
def Rs.ds : Rs → List PyData
  | .add e k => [.str "add", .int (e : Nat), .bool k]
  | .rem => [.str "remove"]
  | .ent e => [.str "entry", .str (toString ((e : Nat) : Int))]
  | .nth u => [.str "nothing", .int (u : Nat)]
  | .und b e => [.str "undo", .str (wd b), .int (e : Nat)]
def Rs.ok : Rs → Prop
  | .add e _ => e < 16
  | .rem => True
  | .ent e => e < 16
  | .nth u => u < 16
  | .und _ e => e < 16
theorem Rs.dp {K : PySem.W.Frag} {H : Hp} (r : Rs) : DpAll K H r.vs r.ds := by
  cases r <;> repeat first | exact .nil | exact .cons (.str _) .nil | refine .cons (.str _) ?_ | refine .cons (.int _) ?_ | refine .cons (.bl _) ?_
structure S3 where
  a : List (List Nat)
  c : List Chg
  n : Nat
inductive Op where
  | add (w : List Nat)
  | rem (e : Nat)
  | und
open Classical in
noncomputable def step (s : S3) (u : Nat) : Op → S3 × Rs
  | .add w => (⟨s.a ++ [w], s.c ++ [(u, true, s.a.length)], s.n + 1⟩, .add s.a.length (decide (Gen ((curW s.a s.c).map red) (red w))))
  | .rem e => if cur s.c e = true then (⟨s.a, s.c ++ [(u, false, e)], s.n + 1⟩, .rem) else (s, .ent e)
  | .und => match lastOwn s.c u with
    | none => (s, .nth u)
    | some k => (⟨s.a, s.c.eraseIdx k, s.n⟩, .und (s.c[k]?.getD (0, false, 0)).2.1 (s.c[k]?.getD (0, false, 0)).2.2)
structure S3.Ok (s : S3) (N : Nat) : Prop where
  a : s.a.length ≤ N
  c : s.c.length ≤ N
  n : s.n ≤ N
  w : ∀ w ∈ s.a, Steps w ∧ w.length ≤ 8
  e : ∀ x ∈ s.c, x.1 < 4 ∧ x.2.2 < s.a.length
def Op.ok : Op → Prop
  | .add w => Steps w ∧ w.length ≤ 8
  | .rem e => e < 16
  | .und => True
theorem S3.Ok.mono {s : S3} {N M : Nat} (h : s.Ok N) (l : N ≤ M) : s.Ok M := ⟨Nat.le_trans h.a l, Nat.le_trans h.c l, Nat.le_trans h.n l, h.w, h.e⟩
theorem step_ok3 {s : S3} {N u : Nat} {op : Op} (h : s.Ok N) (hu : u < 4) (ho : op.ok) (hN : N ≤ 15) : (step s u op).1.Ok (N + 1) ∧ (step s u op).2.ok := by
  cases op with
  | add w =>
    refine ⟨⟨?_, ?_, ?_, ?_, ?_⟩, ?_⟩
    · show (s.a ++ [w]).length ≤ N + 1
      rw [List.length_append]; exact Nat.succ_le_succ h.a
    · show (s.c ++ [(u, true, s.a.length)]).length ≤ N + 1
      rw [List.length_append]; exact Nat.succ_le_succ h.c
    · exact Nat.succ_le_succ h.n
    · intro v hv
      rcases List.mem_append.mp hv with z | z
      · exact h.w v z
      · rw [List.mem_singleton.mp z]; exact ho
    · intro x hx
      show x.1 < 4 ∧ x.2.2 < (s.a ++ [w]).length
      rw [List.length_append]
      rcases List.mem_append.mp hx with z | z
      · have := h.e x z
        exact ⟨this.1, Nat.lt_succ_of_lt this.2⟩
      · rw [List.mem_singleton.mp z]; exact ⟨hu, Nat.lt_succ_self _⟩
    · show s.a.length < 16
      have := h.a; omega
  | rem e =>
    by_cases z : cur s.c e = true
    · have es : step s u (.rem e) = (⟨s.a, s.c ++ [(u, false, e)], s.n + 1⟩, .rem) := if_pos z
      rw [es]
      refine ⟨⟨Nat.le_succ_of_le h.a, ?_, Nat.succ_le_succ h.n, h.w, ?_⟩, trivial⟩
      · show (s.c ++ [(u, false, e)]).length ≤ N + 1
        rw [List.length_append]; exact Nat.succ_le_succ h.c
      · intro x hx
        rcases List.mem_append.mp hx with y | y
        · exact h.e x y
        · rw [List.mem_singleton.mp y]
          refine ⟨hu, ?_⟩
          have z1 : (s.c.any fun c => decide (c.2.2 = e) && c.2.1) = true := by
            unfold cur at z
            exact (Bool.and_eq_true _ _ ▸ z).1
          obtain ⟨c, hc, hd⟩ := List.any_eq_true.mp z1
          have := of_decide_eq_true (Bool.and_eq_true _ _ ▸ hd).1
          rw [← this]
          exact (h.e c hc).2
    · have es : step s u (.rem e) = (s, .ent e) := if_neg z
      rw [es]
      exact ⟨h.mono (Nat.le_succ _), ho⟩
  | und =>
    cases z : lastOwn s.c u with
    | none =>
      have es : step s u .und = (s, .nth u) := by unfold step; rw [z]
      rw [es]
      exact ⟨h.mono (Nat.le_succ _), by show u < 16; omega⟩
    | some k =>
      obtain ⟨c, ek, _⟩ := lastOwn_some z
      have es : step s u .und = (⟨s.a, s.c.eraseIdx k, s.n⟩, .und c.2.1 c.2.2) := by unfold step; rw [z]; simp only [ek, Option.getD_some]
      rw [es]
      refine ⟨⟨Nat.le_succ_of_le h.a, Nat.le_succ_of_le (Nat.le_trans (List.length_eraseIdx_le _ _) h.c), Nat.le_succ_of_le h.n, h.w, fun x hx => h.e x (List.mem_of_mem_eraseIdx hx)⟩, ?_⟩
      show c.2.2 < 16
      have := (h.e c (List.mem_of_getElem? ek)).2
      have := h.a
      omega
def opV (u : Nat) : Op → List V
  | .add w => [.str "add", .str (tx w), .int (u : Nat)]
  | .rem e => [.str "remove", .int (e : Nat), .int (u : Nat)]
  | .und => [.str "undo", .non, .int (u : Nat)]
/-! ### the model is changed -/
theorem tupS_upd {H : Hp} {x : Addr} {xs : List V} {o : HO} (h : H x = some (.lst xs)) : TupS H (L2.upd H x o) := fun b ys e => by rw [upd_ne (ne_of e h (by intro z; cases z))]; exact e
section
variable {H : Hp} {o : MA} {added : List (List Nat)} {cs : List Chg} {n : Nat} {LM : List V}
theorem MB.ds (B : MB H o added cs n LM) : o.m ≠ o.a ∧ o.m ≠ o.c ∧ o.m ≠ o.k ∧ o.a ≠ o.c ∧ o.a ≠ o.k ∧ o.c ≠ o.k := by
  have := B.d
  simp only [List.nodup_cons, List.mem_cons, List.not_mem_nil, or_false, not_or] at this
  exact ⟨this.1.1, this.1.2.1, this.1.2.2, this.2.1.1, this.2.1.2, this.2.2.1⟩
theorem MB.setC (B : MB H o added cs n LM) {cs' : List Chg} {LM' : List V} (r : CRel H LM' cs') : MB (L2.upd H o.c (.lst LM')) o added cs' n LM' ∧ Touch [o.a, o.c, o.k] H (L2.upd H o.c (.lst LM')) := by
  obtain ⟨h1, h2, h3, h4, h5, h6⟩ := B.ds
  exact ⟨⟨by rw [upd_ne h2]; exact B.m, by rw [upd_ne h4]; exact B.a, upd_same, by rw [upd_ne h6.symm]; exact B.k, r.to (tupS_upd B.c), B.d⟩, Touch.upd (by simp)⟩
theorem MB.setA (B : MB H o added cs n LM) (added' : List (List Nat)) : MB (L2.upd H o.a (.lst (words added'))) o added' cs n LM ∧ Touch [o.a, o.c, o.k] H (L2.upd H o.a (.lst (words added'))) := by
  obtain ⟨h1, h2, h3, h4, h5, h6⟩ := B.ds
  exact ⟨⟨by rw [upd_ne h1]; exact B.m, upd_same, by rw [upd_ne h4.symm]; exact B.c, by rw [upd_ne h5.symm]; exact B.k, B.r.to (tupS_upd B.a), B.d⟩, Touch.upd (by simp)⟩
theorem MB.setK (B : MB H o added cs n LM) (n' : Nat) : MB (L2.upd H o.k (.lst [.int (n' : Nat)])) o added cs n' LM ∧ Touch [o.a, o.c, o.k] H (L2.upd H o.k (.lst [.int (n' : Nat)])) := by
  obtain ⟨h1, h2, h3, h4, h5, h6⟩ := B.ds
  exact ⟨⟨by rw [upd_ne h3]; exact B.m, by rw [upd_ne h5]; exact B.a, by rw [upd_ne h6]; exact B.c, upd_same, B.r.to (tupS_upd B.k), B.d⟩, Touch.upd (by simp)⟩
theorem MB.tup (B : MB H o added cs n LM) {b : Addr} {xs : List V} (h : H b = some (.tup xs)) : b ∉ [o.a, o.c, o.k] := by
  have h1 := ne_of h B.a (by intro z; cases z)
  have h2 := ne_of h B.c (by intro z; cases z)
  have h3 := ne_of h B.k (by intro z; cases z)
  simp only [List.mem_cons, List.not_mem_nil, or_false, not_or]
  exact ⟨h1, h2, h3⟩
end
def spUndone : Sp := fun vs H Q _ => ∃ (o : MA) (s : S3) (LM : List V) (u : Nat), vs = [.ref o.m, .int (u : Nat)] ∧ MB H o s.a s.c s.n LM ∧ s.Ok 15 ∧
  ∀ H' r LM', Touch [o.a, o.c, o.k] H H' → MB H' o (step s u .und).1.a (step s u .und).1.c (step s u .und).1.n LM' → H' r = some (.lst (step s u .und).2.vs) → Q (.ref r) H'
section
variable {P : Program} {w : World} {K : PySem.W.Frag} {mg : Str → Option Value} {base : Heap} {f : Addr} {fd : FuncData}
def nsUndone : List Str := ["_law_model", "_law_who", "_law_own", "_law_number", "_law_change_here"]
theorem scUndone : FnScope nsUndone ["_law_model", "_law_who"] (defScope lUndone) := ⟨rfl, rfl, rfl, by decide +kernel, rfl, by decide +kernel, by decide +kernel⟩
theorem ok_undone (F : FnP K "_law_undone" lUndone f fd) (B : Bi mg) (ZC : Has P w K mg base 1 "_law_current" ["_law_model"] spCurrent) : FnOk P w K mg base CX0 2 f fd ["_law_model", "_law_who"] spUndone := by
  refine F.ok scUndone (fun vs H Q E h => ?_) (fun cdv A outer s H vs Q E hr h => ⟨_, PSs.nox (pss_cons (ps_setLc (i := 2) (own := [("_law_number", 3), ("_law_change_here", 4)]) (g := gTup K 2 (gCons (gName 3) (gCons (gName 4) gNil))) rfl scUndone.nd rfl rfl (sw_true rfl rfl rfl (by decide +kernel)) (pi_enum (by rfl) B.enumerate (pa_cons (pe_ix ix_list (pv 0) pe_int (fun _ _ => rfl)) pa_nil)) (blkOk_by (N := nsUndone) (sc := defScope lUndone) (by decide +kernel))
          (fun _ _ _ _ _ => pg_tup rfl (pgs_cons (pg_name (i := 3) scUndone.nd rfl (Or.inl rfl)) (pgs_cons (pg_name (i := 4) scUndone.nd rfl (Or.inl rfl)) pgs_nil)))
          (fun _ _ _ _ _ => pts_one (pt_cmpR op_eq (pe_ix (show IxR _ (rIxT K) from ix_tup) (pv 4) pe_int (fun _ _ => rfl)) (pv 1) (nomark _))) (fun _ _ _ _ _ => pv 3))
    (pss_cons (ps_if (pt_cmpR (op_eqD (room64 hr)) (pv 2) (pe_lst pa_nil) (nomark _)) (pss_one (ps_ret (pe_lst (pa_cons pe_str (pa_cons (pv 1) pa_nil))))) pss_nil)
    (pss_cons (ps_set (i := 4) scUndone.nd rfl (Or.inl rfl) (pe_bm PySem.F.plainAttrs_list PySem.F.slot_list_pop PySem.F.type_list_pop mt_popAt (pe_ix ix_list (pv 0) pe_int (fun _ _ => rfl)) (pa_cons (pe_ix ix_list (pv 2) (pe_un un_neg pe_int) (fun _ _ => rfl)) pa_nil)))
    (pss_cons (ps_if (pt_cmpR op_gt (pe_callB call_len_seq rfl B.len PySem.boot_len (pa_cons (pe_h ZC hr (pa_cons (pv 0) pa_nil)) pa_nil)) pe_int (nomark _)) (pss_cons ps_never (pss_one ps_never)) pss_nil)
    (pss_one (ps_ret (pe_lst (pa_cons pe_str (pa_cons (pe_ix ix_tup (pv 4) pe_int (fun _ _ => rfl)) (pa_cons (pe_ix ix_tup (pv 4) pe_int (fun _ _ => rfl)) pa_nil)))))))))), ?_⟩)
  · obtain ⟨o, t, LM, u, rfl, _⟩ := h; rfl
  · obtain ⟨o, ⟨added, cs, n⟩, LM, u, rfl, M, ok, q⟩ := h
    have hal : added.length ≤ 15 := ok.a
    have hcl : cs.length ≤ 15 := ok.c
    have M : MB H o added cs n LM := M
    refine ⟨_, rfl, o.m, _, 1, _, rfl, rfl, SqL.of M.m, atI_nat (j := 1) rfl, o.c, _, rfl, SqL.of M.c, fun D nD => ?_⟩
    refine lc_filt walk_enum (fun i => decide ((cs[i]?.getD (0, false, 0)).1 = u)) (fun i => V.int (i : Nat)) (by rw [M.r.1]; exact Nat.le_trans hcl (by decide)) (fun H' s' => SqL.of (s' _ _ M.c)) nD (fun i x H1 H2 Q2 N hi s1 y k1 k2 => ?_) (fun H1 s1 hD => ?_)
    · obtain ⟨T1, x1, x2, rfl, nT, rfl, e1, e2⟩ := y
      cases e1
      rw [M.r.1] at hi
      have ec : cs[i]? = some cs[i] := List.getElem?_eq_getElem hi
      obtain ⟨b, g1, g2⟩ := M.r.2 i cs[i] ec
      have e2 : LM[i]? = some x2 := e2
      rw [e2] at g1
      cases g1
      rw [ec] at k1 k2
      have s2 := same_new (o := .tup [.int (i : Nat), .ref b]) nT
      refine ⟨T1, _, rfl, SqT.of upd_same, rfl, _, _, rfl, _, _, rfl, rfl, rfl, ?_⟩
      refine ⟨_, rfl, b, _, 0, .int (cs[i].1 : Nat), rfl, rfl, SqT.of (s2 _ _ (s1 _ _ g2)), atI_nat (j := 0) rfl, _, rfl, rfl, _, rfl, ?_⟩
      by_cases z : cs[i].1 = u
      · exact iteTb (decide_eq_true (by rw [z])) ⟨_, rfl, k1 (decide_eq_true z) _ s2⟩
      · exact iteFb (decide_eq_false (fun q => z (by have := V.int.inj q; omega))) (k2 (decide_eq_false z) _ s2)
    · rw [M.r.1] at hD
      have hD : H1 D = some (.lst ((ownL cs u).map fun (i : Nat) => V.int (i : Nat))) := hD
      refine ⟨_, rfl, Nat.zero_le _, fun m nm => ?_⟩
      have s2 := same_new (o := .lst []) nm
      refine rEq_nil (SqL.of (s2 _ _ hD)) (ints_plain _) (SqL.of upd_same) ⟨_, rfl, ?_⟩
      have M2 := (M.same s1).same s2
      have s12 := s1.trans s2
      have hD2 := s2 _ _ hD
      generalize L2.upd H1 m (.lst []) = H2 at M2 s12 hD2
      cases ho : lastOwn cs u with
      | none =>
        have e : ownL cs u = [] := List.getLast?_eq_none_iff.mp ho
        have es : step ⟨added, cs, n⟩ u .und = (⟨added, cs, n⟩, .nth u) := by unfold step; dsimp only; rw [ho]
        rw [es] at q
        rw [e]
        refine iteT ?_
        refine ⟨_, rfl, (by show 2 ≤ sizeLine; decide), fun r nr => ?_⟩
        have s3 := s12.trans (same_new (o := .lst [.str "nothing", .int (u : Nat)]) nr)
        exact q _ r LM (Touch.of s3) (M.same s3) upd_same
      | some k =>
        obtain ⟨c, ek, eu⟩ := lastOwn_some ho
        have es : step ⟨added, cs, n⟩ u .und = (⟨added, cs.eraseIdx k, n⟩, .und c.2.1 c.2.2) := by unfold step; dsimp only; rw [ho]; simp only [ek, Option.getD_some]
        rw [es] at q
        have hne : ((ownL cs u).map fun (i : Nat) => V.int (i : Nat)).isEmpty = false := by
          cases h : ownL cs u with
          | nil =>
            have : (ownL cs u).getLast? = some k := ho
            rw [h] at this
            cases this
          | cons _ _ => rfl
        rw [hne]
        refine iteF ?_
        have hk : k < cs.length := (List.getElem?_eq_some_iff.mp ek).1
        have last : atI ((ownL cs u).map fun (i : Nat) => V.int (i : Nat)) (-1) = some (.int (k : Nat)) := by
          refine atI_end ?_
          have : (ownL cs u).getLast? = some k := ho
          rw [List.getLast?_map, this]
          rfl
        obtain ⟨b, g1, g2⟩ := M2.r.2 k c ek
        refine ⟨_, rfl, o.m, _, 1, _, rfl, rfl, SqL.of M2.m, atI_nat (j := 1) rfl, .inl ⟨rfl, _, SqL.of M2.c⟩, _, rfl, 1, rfl, D, _, _, _, rfl, rfl, SqL.of hD2, last, ?_⟩
        refine ⟨o.c, LM, (k : Int), k, .ref b, rfl, rfl, M2.c, by omega, by omega, ?_, g1, ?_⟩
        · have hk2 : k < LM.length := by rw [M2.r.1]; exact hk
          unfold seqIndex?
          first
            | (rw [if_neg (by omega), if_pos (by omega)]; simp)
            | (simp; omega)
        obtain ⟨M3, t3⟩ := M2.setC (M2.r.erase k)
        have hb3 := tupS_upd (o := .lst (LM.eraseIdx k)) M2.c _ _ g2
        generalize L2.upd H2 o.c (.lst (LM.eraseIdx k)) = H3 at M3 t3 hb3
        have el : (cs.eraseIdx k).length ≤ cs.length := List.length_eraseIdx_le cs k
        refine ⟨_, rfl, o, added, cs.eraseIdx k, n, _, rfl, M3, by omega, by omega, fun H4 d s4 nd hd => ⟨d, _, rfl, .inl (SqL.of hd), ?_⟩⟩
        have ll : (nums (curL added (cs.eraseIdx k))).length = (curL added (cs.eraseIdx k)).length := by rw [nums, List.length_map]
        have cl := curL_len (added := added) (cs := cs.eraseIdx k)
        rw [ll]
        refine ⟨_, _, rfl, rfl, _, rfl, iteFb (decide_eq_false (by omega)) ?_⟩
        have hb4 := s4 _ _ hb3
        refine ⟨_, rfl, b, _, 1, _, rfl, rfl, SqT.of hb4, atI_nat (j := 1) rfl, _, rfl, b, _, 2, _, rfl, rfl, SqT.of hb4, atI_nat (j := 2) rfl, (by show 3 ≤ sizeLine; decide), fun r nr => ?_⟩
        have s5 := s4.trans (same_new (o := .lst [.str "undo", .str (wd c.2.1), .int (c.2.2 : Nat)]) nr)
        exact q _ r _ ((Touch.of s12).trans (t3.trans (Touch.of s5))) (M3.same s5) upd_same
end
end K73
set_option Elab.async false
set_option linter.all false
set_option maxRecDepth 100000
set_option maxHeartbeats 4000000
/-! K73LawH: what the law expects of a change. -/
namespace K73
open PySem PySem.Spec PyProof.Rows L2
abbrev lExpected : Stmt := topS 62
theorem cur_mem {added : List (List Nat)} {cs : List Chg} (h : ∀ x ∈ cs, x.1 < 4 ∧ x.2.2 < added.length) (e : Nat) : inV (.int (e : Nat)) (nums (curL added cs)) = cur cs e := by
  have key : cur cs e = true → e < added.length := fun z => by
    have z1 : (cs.any fun c => decide (c.2.2 = e) && c.2.1) = true := by
      unfold cur at z
      exact (Bool.and_eq_true _ _ ▸ z).1
    obtain ⟨c, hc, hd⟩ := List.any_eq_true.mp z1
    have := of_decide_eq_true (Bool.and_eq_true _ _ ▸ hd).1
    rw [← this]
    exact (h c hc).2
  unfold inV nums
  rw [List.any_map]
  cases z : cur cs e with
  | true =>
    refine List.any_eq_true.mpr ⟨e, List.mem_filter.mpr ⟨List.mem_range.mpr (key z), z⟩, ?_⟩
    show (((e : Nat) : Int) == ((e : Nat) : Int)) = true
    exact beq_self_eq_true _
  | false =>
    refine List.any_eq_false.mpr fun x hx => ?_
    have hx2 := (List.mem_filter.mp hx).2
    intro q
    have : x = e := by
      first
        | (have q1 : (((e : Nat) : Int) == ((x : Nat) : Int)) = true := q
           have := of_decide_eq_true q1
           omega)
        | (have q1 : (((x : Nat) : Int) == ((e : Nat) : Int)) = true := q
           have := of_decide_eq_true q1
           omega)
    rw [this, z] at hx2
    cases hx2
theorem nums_flat (l : List Nat) : (nums l).all flatV = true := by
  rw [List.all_eq_true]
  intro x hx
  obtain ⟨_, _, rfl⟩ := List.mem_map.mp hx
  rfl
theorem log_small {e : Nat} (h : e < 1000) : ((e : Nat) : Int).natAbs.log2 < 1920 := by
  have : ((e : Nat) : Int).natAbs = e := rfl
  rw [this]
  by_cases z : e = 0
  · rw [z]; decide
  · exact Nat.lt_trans ((Nat.log2_lt z).mpr (show e < 2 ^ 10 by omega)) (by decide)
theorem rEq_opt {x : Option Nat} {H : Hp} {Q : VK} {b : Bool} (hb : b = true ↔ x = some 0) (q : Q (.bl b) H) : rEq (optV x) (.int 0) H Q := by
  have e : b = decide (optV x = .int 0) := by
    cases x with
    | none =>
      cases b with
      | false => rfl
      | true => exact absurd (hb.mp rfl) (by simp)
    | some v =>
      cases v with
      | zero => rw [hb.mpr rfl]; rfl
      | succ v =>
        cases b with
        | false => exact (decide_eq_false (fun z => by have z2 := V.int.inj z; omega)).symm
        | true => exact absurd (hb.mp rfl) (by simp)
  rw [e] at q
  cases x with
  | none => exact ⟨rfl, q⟩
  | some v => exact ⟨rfl, q⟩
def spExpected : Sp := fun vs H Q _ => ∃ (o : MA) (s : S3) (LM : List V) (t : Addr) (u : Nat) (op : Op), vs = [.ref o.m, .ref t] ∧ MB H o s.a s.c s.n LM ∧ H t = some (.tup (opV u op)) ∧ u < 4 ∧ op.ok ∧ s.Ok 13 ∧
  ∀ H' r LM', Touch [o.a, o.c, o.k] H H' → MB H' o (step s u op).1.a (step s u op).1.c (step s u op).1.n LM' → H' r = some (.lst (step s u op).2.vs) → Q (.ref r) H'
section
variable {P : Program} {w : World} {K : PySem.W.Frag} {mg : Str → Option Value} {base : Heap} {f : Addr} {fd : FuncData}
def nsExpected : List Str := ["_law_model", "_law_change_here", "_law_word", "_law_value", "_law_who", "_law_known"]
theorem scExpected : FnScope nsExpected ["_law_model", "_law_change_here"] (defScope lExpected) := ⟨rfl, rfl, rfl, by decide +kernel, rfl, by decide +kernel, by decide +kernel⟩
theorem ok_expected (F : FnP K "_law_expected" lExpected f fd) (B : Bi mg) (ZI : Has P w K mg base 1 "_law_is_integer" ["_law_value"] spIsInt) (ZC : Has P w K mg base 1 "_law_current" ["_law_model"] spCurrent) (ZU : Has P w K mg base 2 "_law_undone" ["_law_model", "_law_who"] spUndone)
    (ZS : Has P w K mg base 2 "_law_short" ["_law_path_here"] spShort) (ZL : Has P w K mg base 2 "_law_listed" ["_law_model"] spListed) (ZF : Has P w K mg base 4 "_law_folded" ["_law_paths"] (spFolded K)) (ZE : Has P w K mg base 1 "_law_end" psEnd spEnd) :
    FnOk P w K mg base CX0 5 f fd ["_law_model", "_law_change_here"] spExpected := by
  refine F.ok scExpected (fun vs H Q E h => ?_) (fun cdv A outer s H vs Q E hr h => ⟨_, PSs.nox (pss_cons (ps_asg (pv 1) (pg_tup rfl (pgs_cons (pg_name (i := 2) scExpected.nd rfl (Or.inl rfl)) (pgs_cons (pg_name (i := 3) scExpected.nd rfl (Or.inl rfl)) (pgs_cons (pg_name (i := 4) scExpected.nd rfl (Or.inl rfl)) pgs_nil)))))
    (pss_cons (ps_if (PW.pt (pw_and (pt_cmpR op_eq (pv 2) pe_str (nomark _)) (pw_and1 (PW.pt (pw_or (pt_not (pt_val (pe_h ZI (hr.mono (by decide)) (pa_cons (pv 3) pa_nil)))) (pw_or1 (pt_cmpR op_notIn_seq (pv 3) (pe_h ZC (hr.mono (by decide)) (pa_cons (pv 0) pa_nil)) rfl)))))))
      (pss_one (ps_ret (pe_lst (pa_cons pe_str (pa_cons (pe_callB SkE.call_repr_int rfl B.repr (by decide +kernel) (pa_cons (pv 3) pa_nil)) pa_nil))))) pss_nil)
    (pss_cons (ps_if (PW.pt (pw_or (pt_not (pt_val (pe_h ZI (hr.mono (by decide)) (pa_cons (pv 4) pa_nil)))) (pw_or1 (pt_not (pt_chain op_le op_lt pe_int (pv 4) pe_int))))) (pss_one ps_never) pss_nil)
    (pss_cons (ps_if (pt_cmpR op_eq (pv 2) pe_str (nomark _)) (pss_one (ps_ret (pe_h ZU (hr.mono (by decide)) (pa_cons (pv 0) (pa_cons (pv 4) pa_nil))))) pss_nil)
    (pss_cons (ps_if (PW.pt (pw_and (pt_cmpR op_eq (pv 2) pe_str (nomark _)) (pw_and1 (pt_cmpR op_gt (pe_callB call_len_str rfl B.len PySem.boot_len (pa_cons (pe_h ZS (hr.mono (by decide)) (pa_cons (pv 3) pa_nil)) pa_nil)) pe_int (nomark _))))) (pss_one ps_never) pss_nil)
    (pss_cons (ps_if (PW.pt (pw_and (pt_cmpR op_eq (pv 2) pe_str (nomark _)) (pw_and1 (pt_cmpR op_ge (pe_callB call_len_seq rfl B.len PySem.boot_len (pa_cons (pe_h ZC (hr.mono (by decide)) (pa_cons (pv 0) pa_nil)) pa_nil)) pe_int (nomark _))))) (pss_one ps_never) pss_nil)
    (pss_cons (ps_if (pt_cmpR op_ge (pe_ix ix_list (pe_ix ix_list (pv 0) pe_int (fun _ _ => rfl)) pe_int (fun _ _ => rfl)) pe_int (nomark _)) (pss_one ps_never) pss_nil)
    (pss_cons (ps_asg (pe_op op_add (pe_ix ix_list (pe_ix ix_list (pv 0) pe_int (fun _ _ => rfl)) pe_int (fun _ _ => rfl)) pe_int) (pg_sub (pe_ix ix_list (pv 0) pe_int (fun _ _ => rfl)) pe_int set_list))
    (pss_cons (ps_if (pt_cmpR op_eq (pv 2) pe_str (nomark _))
      (pss_cons (ps_expr (pe_bm PySem.F.plainAttrs_list PySem.F.slot_list_append PySem.F.type_list_append mt_append (pe_ix ix_list (pv 0) pe_int (fun _ _ => rfl)) (pa_cons (pe_tup (pa_cons (pv 4) (pa_cons (pv 2) (pa_cons (pv 3) pa_nil)))) pa_nil)))
      (pss_one (ps_ret (pe_lst (pa_cons pe_str pa_nil))))) pss_nil)
    (pss_cons (ps_set (i := 5) scExpected.nd rfl (Or.inl rfl) (pe_cmpR op_eq (pe_h ZE (hr.mono (by decide)) (pa_cons (pe_h ZF hr (pa_cons (pe_h ZL (hr.mono (by decide)) (pa_cons (pv 0) pa_nil)) pa_nil)) (pa_cons (pe_h ZS (hr.mono (by decide)) (pa_cons (pv 3) pa_nil)) (pa_cons pe_int pa_nil)))) pe_int (nomark _)))
    (pss_cons (ps_expr (pe_bm PySem.F.plainAttrs_list PySem.F.slot_list_append PySem.F.type_list_append mt_append (pe_ix ix_list (pv 0) pe_int (fun _ _ => rfl)) (pa_cons (pv 3) pa_nil)))
    (pss_cons (ps_expr (pe_bm PySem.F.plainAttrs_list PySem.F.slot_list_append PySem.F.type_list_append mt_append (pe_ix ix_list (pv 0) pe_int (fun _ _ => rfl)) (pa_cons (pe_tup (pa_cons (pv 4) (pa_cons (pv 2) (pa_cons (pe_op op_sub (pe_callB call_len_seq rfl B.len PySem.boot_len (pa_cons (pe_ix ix_list (pv 0) pe_int (fun _ _ => rfl)) pa_nil)) pe_int) pa_nil)))) pa_nil)))
    (pss_one (ps_ret (pe_lst (pa_cons pe_str (pa_cons (pe_op op_sub (pe_callB call_len_seq rfl B.len PySem.boot_len (pa_cons (pe_ix ix_list (pv 0) pe_int (fun _ _ => rfl)) pa_nil)) pe_int) (pa_cons (pv 5) pa_nil)))))))))))))))))), ?_⟩)
  · obtain ⟨o, s, LM, t, u, op, rfl, _⟩ := h; rfl
  · obtain ⟨o, ⟨added, cs, n⟩, LM, t, u, op, rfl, M, ht, hu, hop, ok, q⟩ := h
    have hal : added.length ≤ 13 := ok.a
    have hcl : cs.length ≤ 13 := ok.c
    have hn : n ≤ 13 := ok.n
    have M : MB H o added cs n LM := M
    have la : (words added).length = added.length := by rw [words, List.length_map]
    cases op with
    | rem e =>
      refine ⟨_, rfl, t, _, rfl, SqT.of ht, rfl, _, _, rfl, _, _, rfl, _, _, rfl, rfl, ?_⟩
      refine ⟨_, rfl, rfl, _, rfl, iteTb (by decide +kernel) ?_⟩
      refine ⟨_, rfl, _, rfl, true, rfl, iteF ?_⟩
      refine ⟨_, rfl, _, rfl, o, added, cs, n, LM, rfl, M, by omega, by omega, fun H1 l s1 nl hl => ⟨l, _, rfl, .inl (SqL.of hl), rfl, nums_flat _, _, rfl, ?_⟩⟩
      rw [cur_mem (ok.e : ∀ x ∈ cs, x.1 < 4 ∧ x.2.2 < added.length)]
      have M1 := M.same s1
      cases z : cur cs e with
      | false =>
        have es : step ⟨added, cs, n⟩ u (.rem e) = (⟨added, cs, n⟩, .ent e) := if_neg (by show ¬ cur cs e = true; rw [z]; decide)
        rw [es] at q
        refine iteTb rfl ?_
        refine ⟨_, rfl, _, rfl, log_small (show e < 1000 from Nat.lt_trans hop (by decide)), (by show 2 ≤ sizeLine; decide), fun r nr => ?_⟩
        have s2 := s1.trans (same_new (o := .lst (Rs.ent e).vs) nr)
        exact q _ r LM (Touch.of s2) (M.same s2) upd_same
      | true =>
        have es : step ⟨added, cs, n⟩ u (.rem e) = (⟨added, cs ++ [(u, false, e)], n + 1⟩, .rem) := if_pos z
        rw [es] at q
        refine iteFb rfl ?_
        refine ⟨_, rfl, _, rfl, true, rfl, iteF ?_⟩
        refine ⟨_, rfl, _, _, rfl, rfl, true, congrArg V.bl (decide_eq_true (by omega)), iteT ⟨_, _, rfl, rfl, true, congrArg V.bl (decide_eq_true (by omega)), iteF ?_⟩⟩
        refine ⟨_, rfl, rfl, _, rfl, iteFb (by decide +kernel) ?_⟩
        refine ⟨_, rfl, rfl, _, rfl, iteFb (by decide +kernel) ?_⟩
        refine ⟨_, rfl, rfl, _, rfl, iteFb (by decide +kernel) ?_⟩
        refine ⟨_, rfl, o.m, _, 2, _, rfl, rfl, SqL.of M1.m, atI_nat (j := 2) rfl, o.k, _, 0, _, rfl, rfl, SqL.of M1.k, atI_nat (j := 0) rfl, _, _, rfl, rfl, _, rfl, iteFb (decide_eq_false (by omega)) ?_⟩
        refine ⟨_, rfl, o.m, _, 2, _, rfl, rfl, SqL.of M1.m, atI_nat (j := 2) rfl, o.k, _, 0, _, rfl, rfl, SqL.of M1.k, atI_nat (j := 0) rfl, _, _, rfl, rfl, ?_⟩
        refine ⟨_, rfl, o.m, _, 2, _, rfl, rfl, SqL.of M1.m, atI_nat (j := 2) rfl, o.k, _, 0, 0, rfl, rfl, M1.k, rfl, ?_⟩
        obtain ⟨M2, t2⟩ := M1.setK (n + 1)
        have t2 := (Touch.of (S := [o.a, o.c, o.k]) s1).trans t2
        refine ⟨_, rfl, rfl, _, rfl, iteTb (by decide +kernel) ?_⟩
        refine ⟨_, rfl, o.m, _, 1, _, rfl, rfl, SqL.of M2.m, atI_nat (j := 1) rfl, .inl ⟨rfl, _, SqL.of M2.c⟩, _, rfl, _, rfl, _, rfl, (by show 3 ≤ sizeLine; decide), fun t3 nt => ?_⟩
        have s3 := same_new (o := .tup (chV (u, false, e))) nt
        have ht3 := upd_same (H := L2.upd H1 o.k (.lst [.int ((n + 1 : Nat) : Int)])) (a := t3) (o := .tup (chV (u, false, e)))
        have M3 := M2.same s3
        refine ⟨o.c, LM, _, rfl, rfl, M3.c, Nat.lt_of_le_of_lt (show LM.length ≤ 1000 by rw [M.r.1]; omega) (by decide), ?_⟩
        obtain ⟨M4, t4⟩ := M3.setC (M3.r.snoc ht3)
        refine ⟨(by show 1 ≤ sizeLine; decide), fun r nr => ?_⟩
        have s5 := same_new (o := .lst Rs.rem.vs) nr
        exact q _ r _ (((t2.trans (Touch.of s3)).trans t4).trans (Touch.of s5)) (M4.same s5) upd_same
    | und =>
      refine ⟨_, rfl, t, _, rfl, SqT.of ht, rfl, _, _, rfl, _, _, rfl, _, _, rfl, rfl, ?_⟩
      refine ⟨_, rfl, rfl, _, rfl, iteFb (by decide +kernel) ?_⟩
      refine ⟨_, rfl, _, rfl, true, rfl, iteF ?_⟩
      refine ⟨_, rfl, _, _, rfl, rfl, true, congrArg V.bl (decide_eq_true (by omega)), iteT ⟨_, _, rfl, rfl, true, congrArg V.bl (decide_eq_true (by omega)), iteF ?_⟩⟩
      refine ⟨_, rfl, rfl, _, rfl, iteTb (by decide +kernel) ?_⟩
      exact ⟨_, rfl, _, rfl, o, ⟨added, cs, n⟩, LM, u, rfl, M, ok.mono (by decide), q⟩
    | add w =>
      obtain ⟨hw, hwl⟩ := hop
      have rl := red_len w
      obtain ⟨kb, hkb⟩ : ∃ kb : Bool, kb = @decide (Gen ((curW added cs).map red) (red w)) (Classical.propDecidable _) := ⟨_, rfl⟩
      have es : step ⟨added, cs, n⟩ u (.add w) = (⟨added ++ [w], cs ++ [(u, true, added.length)], n + 1⟩, .add added.length kb) := by rw [hkb]; rfl
      rw [es] at q
      refine ⟨_, rfl, t, _, rfl, SqT.of ht, rfl, _, _, rfl, _, _, rfl, _, _, rfl, rfl, ?_⟩
      refine ⟨_, rfl, rfl, _, rfl, iteFb (by decide +kernel) ?_⟩
      refine ⟨_, rfl, _, rfl, true, rfl, iteF ?_⟩
      refine ⟨_, rfl, _, _, rfl, rfl, true, congrArg V.bl (decide_eq_true (by omega)), iteT ⟨_, _, rfl, rfl, true, congrArg V.bl (decide_eq_true (by omega)), iteF ?_⟩⟩
      refine ⟨_, rfl, rfl, _, rfl, iteFb (by decide +kernel) ?_⟩
      refine ⟨_, rfl, rfl, _, rfl, iteTb (by decide +kernel) ?_⟩
      refine ⟨_, rfl, w, rfl, hw, by omega, fun H1 s1 => ⟨_, rfl, (by rw [tx_len]; exact Nat.le_trans rl (Nat.le_trans hwl (by decide))), _, _, rfl, rfl, _, rfl, iteFb (decide_eq_false (by rw [tx_len]; omega)) ?_⟩⟩
      have M1 := M.same s1
      refine ⟨_, rfl, rfl, _, rfl, iteTb (by decide +kernel) ?_⟩
      refine ⟨_, rfl, o, added, cs, n, LM, rfl, M1, by omega, by omega, fun H2 l s2 nl hl => ⟨l, _, rfl, .inl (SqL.of hl), ?_⟩⟩
      have ll : (nums (curL added cs)).length = (curL added cs).length := by rw [nums, List.length_map]
      have cl := curL_len (added := added) (cs := cs)
      rw [ll]
      refine ⟨_, _, rfl, rfl, _, rfl, iteFb (decide_eq_false (by omega)) ?_⟩
      have M2 := M1.same s2
      refine ⟨_, rfl, o.m, _, 2, _, rfl, rfl, SqL.of M2.m, atI_nat (j := 2) rfl, o.k, _, 0, _, rfl, rfl, SqL.of M2.k, atI_nat (j := 0) rfl, _, _, rfl, rfl, _, rfl, iteFb (decide_eq_false (by omega)) ?_⟩
      refine ⟨_, rfl, o.m, _, 2, _, rfl, rfl, SqL.of M2.m, atI_nat (j := 2) rfl, o.k, _, 0, _, rfl, rfl, SqL.of M2.k, atI_nat (j := 0) rfl, _, _, rfl, rfl, ?_⟩
      refine ⟨_, rfl, o.m, _, 2, _, rfl, rfl, SqL.of M2.m, atI_nat (j := 2) rfl, o.k, _, 0, 0, rfl, rfl, M2.k, rfl, ?_⟩
      obtain ⟨M3, t3⟩ := M2.setK (n + 1)
      have t3 := (Touch.of (S := [o.a, o.c, o.k]) (s1.trans s2)).trans t3
      refine ⟨_, rfl, rfl, _, rfl, iteFb (by decide +kernel) ?_⟩
      have hcw : (curW added cs).length = (curL added cs).length := by rw [curW, List.length_map]
      refine ⟨_, rfl, o, added, cs, n + 1, LM, rfl, M3, by omega, by omega, fun H4 l4 s4 nl4 hl4 => ⟨l4, curW added cs, rfl, SqL.of hl4, fun v hv => ok.w v (curW_mem hv), by omega, fun H5 d kT T s5 hd tl fold => ?_⟩⟩
      refine ⟨_, rfl, w, rfl, hw, by omega, fun H6 s6 => ⟨d, kT, T, red w, rfl, s6 _ _ hd, tl, red_steps hw, by omega, fun H7 s7 => ?_⟩⟩
      have hb : kb = true ↔ run T 0 (red w) = some 0 := by
        rw [hkb]
        exact (@decide_eq_true_iff _ (Classical.propDecidable _)).trans (fold.gen (red_steps hw)).symm
      dsimp only [tC]
      refine rEq_opt hb ?_
      have s47 := ((s4.trans s5).trans s6).trans s7
      have M7 := M3.same s47
      have t7 := t3.trans (Touch.of s47)
      refine ⟨_, rfl, o.m, _, 0, _, rfl, rfl, SqL.of M7.m, atI_nat (j := 0) rfl, .inl ⟨rfl, _, SqL.of M7.a⟩, _, rfl, o.a, _, _, rfl, rfl, M7.a, Nat.lt_of_le_of_lt (show (words added).length ≤ 13 by rw [la]; exact hal) (by decide), ?_⟩
      have ew : words added ++ [.str (tx w)] = words (added ++ [w]) := by rw [words, words, List.map_append]; rfl
      rw [ew]
      obtain ⟨M8, t8⟩ := M7.setA (added ++ [w])
      have t8 := t7.trans t8
      generalize L2.upd H7 o.a (.lst (words (added ++ [w]))) = H8 at M8 t8
      have el : (((words (added ++ [w])).length : Nat) : Int) - 1 = ((added.length : Nat) : Int) := by
        rw [words, List.length_map, List.length_append]
        show (((added.length + 1 : Nat)) : Int) - 1 = _
        omega
      refine ⟨_, rfl, o.m, _, 1, _, rfl, rfl, SqL.of M8.m, atI_nat (j := 1) rfl, .inl ⟨rfl, _, SqL.of M8.c⟩, _, rfl, _, rfl, _, rfl, o.m, _, 0, _, rfl, rfl, SqL.of M8.m, atI_nat (j := 0) rfl, o.a, _, rfl, .inl (SqL.of M8.a), _, _, rfl, rfl, ?_⟩
      dsimp only [tNil]
      rw [el]
      refine ⟨(by show 3 ≤ sizeLine; decide), fun t9 nt => ?_⟩
      have s9 := same_new (o := .tup (chV (u, true, added.length))) nt
      have ht9 := upd_same (H := H8) (a := t9) (o := .tup (chV (u, true, added.length)))
      have M9 := M8.same s9
      refine ⟨o.c, LM, _, rfl, rfl, M9.c, Nat.lt_of_le_of_lt (show LM.length ≤ 1000 by rw [M.r.1]; omega) (by decide), ?_⟩
      obtain ⟨M10, t10⟩ := M9.setC (M9.r.snoc ht9)
      refine ⟨_, rfl, o.m, _, 0, _, rfl, rfl, SqL.of M10.m, atI_nat (j := 0) rfl, o.a, _, rfl, .inl (SqL.of M10.a), _, _, rfl, rfl, ?_⟩
      dsimp only [tNil]
      rw [el]
      refine ⟨_, rfl, (by show 3 ≤ sizeLine; decide), fun r nr => ?_⟩
      have s11 := same_new (o := .lst (Rs.add added.length kb).vs) nr
      exact q _ r _ (((t8.trans (Touch.of s9)).trans t10).trans (Touch.of s11)) (M10.same s11) upd_same
end
end K73
set_option Elab.async false
set_option linter.all false
set_option maxRecDepth 100000
set_option maxHeartbeats 4000000
/-! K73LawI: what the session answers to a change. -/
namespace K73
open PySem PySem.Spec PyProof.Rows L2
abbrev lActual : Stmt := topS 63
theorem SFr.touch {o : SA} {H H' : Hp} (f : SFr o H H') : Touch [o.p, o.a, o.c] H H' := fun b u h n => by
  simp only [List.mem_cons, List.not_mem_nil, or_false, not_or] at n
  exact f b u h n.1 n.2.1 n.2.2
def spActual (C : Addr) : Sp := fun vs H Q _ => ∃ (o : SA) (s : S3) (LC : List V) (t : Addr) (u : Nat) (op : Op), vs = [.ref o.p, .ref t] ∧ SB C H o s.a s.c s.n LC ∧ H t = some (.tup (opV u op)) ∧ u < 4 ∧ op.ok ∧ s.Ok 13 ∧
  ∀ H' r LC', Touch [o.p, o.a, o.c] H H' → SB C H' o (step s u op).1.a (step s u op).1.c (step s u op).1.n LC' → H' r = some (.lst (step s u op).2.vs) → Q (.ref r) H'
section
variable {P : Program} {w : World} {K : PySem.W.Frag} {mg : Str → Option Value} {base : Heap} {f C CU CI CN CL : Addr} {fd : FuncData}
def nsActual : List Str := ["_law_session", "_law_change_here", "_law_word", "_law_value", "_law_who", "_law_result", "e"]
theorem scActual : FnScope nsActual ["_law_session", "_law_change_here"] (defScope lActual) := ⟨rfl, rfl, rfl, by decide +kernel, rfl, by decide +kernel, by decide +kernel⟩
theorem ok_actual (F : FnP K "_law_actual" lActual f fd) (B : Bi mg) (T : SST K C) (ZA : HasK P w K mg base CX0 9 C "add_path" "user" 2 ["self", "path", "user"] (spAddP C)) (ZR : HasK P w K mg base (L2.CX P w) 3 C "remove_entry" "user" 2 nsRem (spRem C CU))
    (ZU : HasK P w K mg base (L2.CX P w) 3 C "undo" "user" 1 ["self", "user"] (spUndo C CN)) (XU : XfC K CU) (XN : XfC K CN) (nU : PySem.W.findIn K (.ref CU) "value" = some none) (nN : PySem.W.findIn K (.ref CN) "user" = some none)
    (mU : mg "UnknownEntry" = some (.ref CU)) (mI : mg "InvalidUser" = some (.ref CI)) (mN : mg "NothingToUndo" = some (.ref CN)) (mL : mg "LimitExceeded" = some (.ref CL))
    (e1 : PySem.W.exmOne K (.ref CU) (.ref CU) = some true) (e2 : PySem.W.exmOne K (.ref CN) (.ref CU) = some false) (e3 : PySem.W.exmOne K (.ref CN) (.ref CI) = some false) (e4 : PySem.W.exmOne K (.ref CN) (.ref CN) = some true) :
    FnOk P w K mg base CX0 10 f fd ["_law_session", "_law_change_here"] (spActual C) := by
  refine F.ok scActual (fun vs H Q E h => ?_) (fun cdv A outer s H vs Q E hr h => ⟨_, PSs.nox (pss_cons (ps_asg (pv 1) (pg_tup rfl (pgs_cons (pg_name (i := 2) scActual.nd rfl (Or.inl rfl)) (pgs_cons (pg_name (i := 3) scActual.nd rfl (Or.inl rfl)) (pgs_cons (pg_name (i := 4) scActual.nd rfl (Or.inl rfl)) pgs_nil)))))
    (pss_one (ps_tryAs rfl rfl scActual.nd (fun W pn xe tk => pss_cons (ps_if (pt_cmpR op_eq (pv 2) pe_str (nomark _))
          (pss_cons (ps_set (i := 5) scActual.nd rfl (Or.inl rfl) (pe_mk (E := fun _ => E0) ZA T.cl hr (fun _ _ _ _ _ _ _ h => h.elim) (pv 0) (pa_cons (pv 3) pa_nil) (pv 4)))
            (pss_one (ps_ret (pe_lst (pa_cons pe_str (pa_cons (pe_ix (show IxR _ (rIxT K) from ix_tup) (pv 5) pe_int (fun _ _ => rfl)) (pa_cons (pe_cmpR op_notN (pe_ix (show IxR _ (rIxT K) from ix_tup) (pv 5) pe_int (fun _ _ => rfl)) pe_non (nomark _)) pa_nil)))))))
          pss_nil)
        (pss_cons (ps_if (pt_cmpR op_eq (pv 2) pe_str (nomark _))
          (pss_one (ps_ret (pe_ix (show IxR _ (rIxL K) from ix_list) (pe_lst (pa_cons (pe_lst (pa_cons pe_str pa_nil)) (pa_cons (pe_lst (pa_cons pe_str pa_nil)) pa_nil))) (pe_callTy call_int1 rfl B.int (by decide +kernel) (pa_cons (pe_cmpR op_isN (pe_mk ZR T.cl (hr.mono (by decide)) (fun σ => passAt tk σ) (pv 0) (pa_cons (pv 3) pa_nil) (pv 4)) pe_non (nomark _)) pa_nil)) (fun _ _ => rfl)))) pss_nil)
        (pss_cons (ps_set (i := 5) scActual.nd rfl (Or.inl rfl) (pe_mk0 ZU T.cl (hr.mono (by decide)) (fun σ => passAt tk σ) (pv 0) (pv 4)))
        (pss_one (ps_ret (pe_lst (pa_cons pe_str (pa_cons (pe_ix (show IxR _ (rIxT K) from ix_tup) (pv 5) pe_int (fun _ _ => rfl)) (pa_cons (pe_ix (show IxR _ (rIxT K) from ix_tup) (pv 5) pe_int (fun _ _ => rfl)) pa_nil)))))))))
      (.cons (i := 6) rfl rfl ⟨rfl, by decide, .inl mU⟩ (fun a oe cls d pn hz hf => pss_one (ps_ret (pe_lst (pa_cons pe_str (pa_cons (pe_callB SkE.call_repr_int rfl B.repr (by decide +kernel) (pa_cons (pe_xf XU nU hz hf (pv 6)) pa_nil)) pa_nil)))))
      (.cons (i := 6) rfl rfl ⟨rfl, by decide, .inl mI⟩ (fun a oe cls d pn hz hf => pss_one ps_never)
      (.cons (i := 6) rfl rfl ⟨rfl, by decide, .inl mN⟩ (fun a oe cls d pn hz hf => pss_one (ps_ret (pe_lst (pa_cons pe_str (pa_cons (pe_xf XN nN hz hf (pv 6)) pa_nil)))))
      (.cons (i := 6) rfl rfl ⟨rfl, by decide, .inl mL⟩ (fun a oe cls d pn hz hf => pss_one ps_never) .nil))))))), ?_⟩)
  · obtain ⟨o, s, LC, t, u, op, rfl, _⟩ := h; rfl
  · obtain ⟨o, ⟨added, cs, n⟩, LC, t, u, op, rfl, B0, ht, hu, hop, ok, q⟩ := h
    have hal : added.length ≤ 13 := ok.a
    have hcl : cs.length ≤ 13 := ok.c
    have hn : n ≤ 13 := ok.n
    have B0 : SB C H o added cs n LC := B0
    cases op with
    | add w =>
      refine ⟨_, rfl, t, _, rfl, SqT.of ht, rfl, _, _, rfl, _, _, rfl, _, _, rfl, rfl, ?_⟩
      refine ⟨_, rfl, rfl, _, rfl, iteTb (by decide +kernel) ?_⟩
      refine ⟨_, rfl, o.p, o.dx, _, rfl, B0.p, ssf_no (by decide +kernel), _, rfl, _, rfl, rfl, ?_⟩
      refine ⟨o, added, cs, n, LC, w, u, rfl, B0, hu, hop.1, hop.2, hal, by omega, by omega, ok.w, fun H1 r v LC1 f1 B1 hr1 hv => ?_⟩
      obtain ⟨kb, hkb⟩ : ∃ kb : Bool, kb = @decide (Gen ((curW added cs).map red) (red w)) (Classical.propDecidable _) := ⟨_, rfl⟩
      have es : step ⟨added, cs, n⟩ u (.add w) = (⟨added ++ [w], cs ++ [(u, true, added.length)], n + 1⟩, .add added.length kb) := by rw [hkb]; rfl
      rw [es] at q
      refine ⟨_, rfl, r, _, 0, _, rfl, rfl, SqT.of hr1, atI_nat (j := 0) rfl, _, rfl, r, _, 1, _, rfl, rfl, SqT.of hr1, atI_nat (j := 1) rfl, rfl, ?_⟩
      have ev : (!decide (v = .non)) = kb := by
        rcases hv with ⟨rfl, ng⟩ | ⟨⟨r', rfl⟩, g⟩
        · rw [hkb]
          exact (@decide_eq_false _ (Classical.propDecidable _) ng).symm
        · rw [hkb]
          exact (@decide_eq_true _ (Classical.propDecidable _) g).symm
      rw [ev]
      refine ⟨(by show 3 ≤ sizeLine; decide), fun l nl => ?_⟩
      have s2 := same_new (o := .lst (Rs.add added.length kb).vs) nl
      exact q _ l LC1 (f1.touch.trans (Touch.of s2)) (B1.same s2) upd_same
    | rem e =>
      refine ⟨_, rfl, t, _, rfl, SqT.of ht, rfl, _, _, rfl, _, _, rfl, _, _, rfl, rfl, ?_⟩
      refine ⟨_, rfl, rfl, _, rfl, iteFb (by decide +kernel) ?_⟩
      refine ⟨_, rfl, rfl, _, rfl, iteTb (by decide +kernel) ?_⟩
      refine ⟨(by show 1 ≤ sizeLine; decide), fun l1 nl1 => ⟨(by show 1 ≤ sizeLine; decide), fun l2 nl2 => ⟨(by show 2 ≤ sizeLine; decide), fun l3 nl3 => ?_⟩⟩⟩
      have s1 := same_new (o := .lst [.str "odd"]) nl1
      have s2 := same_new (o := .lst [.str "remove"]) nl2
      have s3 := same_new (o := .lst [.ref l1, .ref l2]) nl3
      have s03 := (s1.trans s2).trans s3
      have hl2 := s3 _ _ (upd_same (H := L2.upd H l1 (.lst [.str "odd"])) (a := l2) (o := .lst [.str "remove"]))
      have hl3 := upd_same (H := L2.upd (L2.upd H l1 (.lst [.str "odd"])) l2 (.lst [.str "remove"])) (a := l3) (o := .lst [.ref l1, .ref l2])
      have fresh : ∀ x, H x = none → x ≠ o.p ∧ x ≠ o.a ∧ x ≠ o.c := fun x hx => ⟨fun z => (by rw [z, B0.p] at hx; cases hx), fun z => (by rw [z, B0.a] at hx; cases hx), fun z => (by rw [z, B0.c] at hx; cases hx)⟩
      have nl2' : H l2 = none := by
        cases e : H l2 with
        | none => rfl
        | some x => rw [s1 _ _ e] at nl2; cases nl2
      have nl3' : H l3 = none := by
        cases e : H l3 with
        | none => rfl
        | some x => rw [(s1.trans s2) _ _ e] at nl3; cases nl3
      obtain ⟨f21, f22, f23⟩ := fresh l2 nl2'
      obtain ⟨f31, f32, f33⟩ := fresh l3 nl3'
      generalize L2.upd (L2.upd (L2.upd H l1 (.lst [.str "odd"])) l2 (.lst [.str "remove"])) l3 (.lst [.ref l1, .ref l2]) = H3 at s03 hl2 hl3
      have B3 := B0.same s03
      refine ⟨_, rfl, o.p, o.dx, _, rfl, B3.p, ssf_no (by decide +kernel), _, rfl, _, rfl, rfl, ?_⟩
      refine ⟨o, added, cs, n, LC, e, u, rfl, B3, hu, by omega, by omega, fun hc H4 LC4 f4 B4 => ?_, fun hc H4 d s4 hd => ?_⟩
      · have es : step ⟨added, cs, n⟩ u (.rem e) = (⟨added, cs ++ [(u, false, e)], n + 1⟩, .rem) := if_pos hc
        rw [es] at q
        refine ⟨rfl, .inr ⟨_, rfl, l3, _, 1, .ref l2, rfl, rfl, SqL.of (f4 _ _ hl3 f31 f32 f33), atI_nat (j := 1) rfl, ?_⟩⟩
        exact q _ l2 LC4 ((Touch.of s03).trans f4.touch) B4 (f4 _ _ hl2 f21 f22 f23)
      · have es : step ⟨added, cs, n⟩ u (.rem e) = (⟨added, cs, n⟩, .ent e) := if_neg (by show ¬ cur cs e = true; rw [hc]; decide)
        rw [es] at q
        refine ⟨true, e1, fun _ a na => ?_, fun z => nomatch z⟩
        refine ⟨_, rfl, rfl, rfl, d, _, _, rfl, hd, lk_eq, _, rfl, log_small (show e < 1000 from Nat.lt_trans hop (by decide)), (by show 2 ≤ sizeLine; decide), fun r nr => ?_⟩
        have s5 := (s03.trans s4).trans (same_new (o := .lst (Rs.ent e).vs) nr)
        exact q _ r LC (Touch.of s5) (B0.same s5) upd_same
    | und =>
      refine ⟨_, rfl, t, _, rfl, SqT.of ht, rfl, _, _, rfl, _, _, rfl, _, _, rfl, rfl, ?_⟩
      refine ⟨_, rfl, rfl, _, rfl, iteFb (by decide +kernel) ?_⟩
      refine ⟨_, rfl, rfl, _, rfl, iteFb (by decide +kernel) ?_⟩
      refine ⟨_, rfl, o.p, o.dx, _, rfl, B0.p, ssf_no (by decide +kernel), _, rfl, rfl, ?_⟩
      refine ⟨o, added, cs, n, LC, u, rfl, B0, hu, by omega, by omega, fun k c ho ek H1 r LC1 f1 B1 hr1 => ?_, fun ho H1 d s1 hd => ?_⟩
      · have es : step ⟨added, cs, n⟩ u .und = (⟨added, cs.eraseIdx k, n⟩, .und c.2.1 c.2.2) := by unfold step; dsimp only; rw [ho]; simp only [ek, Option.getD_some]
        rw [es] at q
        refine ⟨_, rfl, r, _, 0, _, rfl, rfl, SqT.of hr1, atI_nat (j := 0) rfl, _, rfl, r, _, 1, _, rfl, rfl, SqT.of hr1, atI_nat (j := 1) rfl, (by show 3 ≤ sizeLine; decide), fun l nl => ?_⟩
        have s2 := same_new (o := .lst (Rs.und c.2.1 c.2.2).vs) nl
        exact q _ l LC1 (f1.touch.trans (Touch.of s2)) (B1.same s2) upd_same
      · have es : step ⟨added, cs, n⟩ u .und = (⟨added, cs, n⟩, .nth u) := by unfold step; dsimp only; rw [ho]
        rw [es] at q
        refine ⟨false, e2, fun z => (nomatch z), fun _ => ⟨false, e3, fun z => (nomatch z), fun _ => ⟨true, e4, fun _ a na => ?_, fun z => nomatch z⟩⟩⟩
        refine ⟨_, rfl, rfl, rfl, d, _, _, rfl, hd, lk_eq, (by show 2 ≤ sizeLine; decide), fun r nr => ?_⟩
        have s2 := s1.trans (same_new (o := .lst (Rs.nth u).vs) nr)
        exact q _ r LC (Touch.of s2) (B0.same s2) upd_same
end
end K73
set_option Elab.async false
set_option linter.all false
set_option maxRecDepth 100000
set_option maxHeartbeats 4000000
/-! K73LawJ: texts of data, in plain. -/
namespace K73
open PySem PySem.Spec PyProof.Rows L2
def Low (x : Str) : Prop := ∀ c ∈ x.cps.toList, c < 128
theorem Low.app {a b : Str} (h : Low a) (g : Low b) : Low (a ++ b) := fun c hc => by
  have e : (a ++ b).cps.toList = a.cps.toList ++ b.cps.toList := by
    show (a.cps ++ b.cps).toList = _
    exact Array.toList_append
  rw [e] at hc
  exact (List.mem_append.mp hc).elim (h c) (g c)
theorem Low.join {sep : Str} (hs : Low sep) : ∀ {l : List Str}, (∀ x ∈ l, Low x) → Low (Str.join sep l)
  | [], _ => fun c hc => by
    have e : (Str.join sep []).cps.toList = [] := rfl
    rw [e] at hc
    cases hc
  | [x], h => h x List.mem_cons_self
  | x :: y :: r, h => by
    have e : Str.join sep (x :: y :: r) = x ++ sep ++ Str.join sep (y :: r) := rfl
    rw [e]
    exact ((h x List.mem_cons_self).app hs).app (Low.join hs fun z hz => h z (List.mem_cons_of_mem _ hz))
theorem low_of {x : Str} (h : (x.cps.toList.all fun c => decide (c < 128)) = true) : Low x := fun c hc => of_decide_eq_true (List.all_eq_true.mp h c hc)
theorem low_int (i : Int) : Low (toString i : String) := fun c hc => by
  have e : (Str.ofString (toString i)).cps.toList = (toString i).toList.map Char.toNat := by rw [Str.ofString_eq_toList]
  rw [e] at hc
  obtain ⟨d, hd, rfl⟩ := List.mem_map.mp hc
  exact int_ascii i d hd
theorem low_tx {w : List Nat} (h : Steps w) : Low (tx w) := fun c hc => by
  rw [tx_cps] at hc
  rcases h c hc with rfl | rfl | rfl | rfl | rfl | rfl | rfl | rfl <;> decide
theorem fold_low {q : Nat} (hq : q = 34 ∨ q = 39) : ∀ (l : List Nat) (acc : Array Nat), (∀ c ∈ l, isStep c) → (∀ c ∈ acc.toList, c < 128) → ∀ c ∈ (l.foldl (fun out c => out ++ (Builtin.Str.reprChar q c).toArray) acc).toList, c < 128
  | [], _, _, h => h
  | x :: l, acc, hl, h => by
    rw [List.foldl_cons]
    refine fold_low hq l _ (fun c hc => hl c (List.mem_cons_of_mem _ hc)) fun c hc => ?_
    rw [Array.toList_append] at hc
    rcases List.mem_append.mp hc with z | z
    · exact h c z
    · have e : Builtin.Str.reprChar q x = [x] := by
        rcases hl x List.mem_cons_self with r | r | r | r | r | r | r | r <;> rw [r] <;> (rcases hq with r2 | r2 <;> rw [r2] <;> decide +kernel)
      rw [e] at z
      have z : c = x := by simpa using z
      rw [z]
      rcases hl x List.mem_cons_self with r | r | r | r | r | r | r | r <;> rw [r] <;> decide
theorem low_repr {w : List Nat} (h : Steps w) : Low (reprText (tx w)) := by
  have hq : reprQuote (tx w) = 34 ∨ reprQuote (tx w) = 39 := by unfold reprQuote; split <;> simp
  intro c hc
  unfold reprText at hc
  generalize reprQuote (tx w) = q at hq hc
  rw [← Array.foldl_toList, tx_cps, Array.toList_push] at hc
  rcases List.mem_append.mp hc with z | z
  · exact fold_low hq w _ h (fun c hc => by
      have : c = q := by simpa using hc
      rw [this]; rcases hq with r | r <;> rw [r] <;> decide) c z
  · have : c = q := by simpa using z
    rw [this]; rcases hq with r | r <;> rw [r] <;> decide
/-! ### what is to be shown -/
def entsOk (D : List (Nat × Str)) : Prop := ∀ p ∈ D, p.1 < 1000 ∧ ∃ w, p.2 = tx w ∧ Steps w ∧ w.length ≤ 8
theorem low_kv : ∀ {D : List (Nat × Str)}, entsOk D → ∀ x ∈ PyData.shownKv (D.map fun p => (PyData.int (p.1 : Nat), PyData.str p.2)), Low x
  | [], _ => fun x hx => by
    rw [List.map_nil, PyData.shownKv_nil] at hx
    cases hx
  | p :: D, h => fun x hx => by
    rw [List.map_cons, PyData.shownKv_cons] at hx
    rcases List.mem_cons.mp hx with rfl | hx
    · obtain ⟨_, w, e, hw, _⟩ := h p List.mem_cons_self
      rw [PyData.shown_int, PyData.shown_str, e]
      exact ((low_int _).app (low_of (by decide +kernel))).app (low_repr hw)
    · exact low_kv (fun q hq => h q (List.mem_cons_of_mem _ hq)) x hx
theorem low_ses {D : List (Nat × Str)} (h : entsOk D) : Low (sesText D) := by
  unfold sesText nsD
  rw [PyData.shown_dict]
  exact ((low_of (by decide +kernel)).app (((low_of (by decide +kernel)).app (Low.join (low_of (by decide +kernel)) (low_kv h))).app (low_of (by decide +kernel)))).app (low_of (by decide +kernel))
theorem short_str {x : Str} (h : Low x) (B : Nat) : (PyData.str x).leavesShort B = true := by
  rw [PyData.leavesShort, List.all_eq_true]
  intro c hc
  exact decide_eq_true (Nat.lt_trans (h c hc) (by decide))
theorem short_int {n : Nat} (h : n < 1000) : (PyData.int ((n : Nat) : Int)).leavesShort 13 = true := by
  rw [PyData.leavesShort]
  exact decide_eq_true (PyData.shown_int_le (show n < 10 ^ 12 by omega))
theorem show_int {n : Nat} (h : n < 1000) : (PyData.int ((n : Nat) : Int)).showable = true := by
  rw [PyData.showable]
  exact decide_eq_true (log_small h)
theorem weigh_int {n : Nat} (h : n < 1000) : (PyData.int ((n : Nat) : Int)).weight ≤ 11 := by
  rw [PyData.weight]
  split
  · exact Nat.zero_le _
  · rename_i z
    have z : n ≠ 0 := fun e => z (by rw [e]; rfl)
    have e : ((n : Nat) : Int).natAbs = n := rfl
    rw [e]
    have := (Nat.log2_lt z).mpr (show n < 2 ^ 10 by omega)
    omega
/-- small data -/
structure Fine (W : Nat) (d : PyData) : Prop where
  l : d.leavesShort 13 = true
  s : d.showable = true
  w : d.weight ≤ W
  h : d.hasDict = false
structure FineA (W : Nat) (d : List PyData) : Prop where
  l : PyData.leavesShortAll 13 d = true
  s : PyData.showableAll d = true
  w : PyData.weightAll d ≤ W
  h : PyData.hasDictAll d = false
theorem FineA.nil : FineA 0 [] := ⟨rfl, rfl, Nat.le_refl _, rfl⟩
theorem FineA.cons {W U : Nat} {d : PyData} {ds : List PyData} (a : Fine W d) (b : FineA U ds) : FineA (W + 1 + U) (d :: ds) :=
  ⟨by rw [PyData.leavesShortAll, a.l, b.l]; rfl, by rw [PyData.showableAll, a.s, b.s]; rfl, by rw [PyData.weightAll]; have := a.w; have := b.w; omega, by rw [PyData.hasDictAll, a.h, b.h]; rfl⟩
theorem FineA.map {α : Type} {f : α → PyData} {W : Nat} : ∀ {l : List α}, (∀ x ∈ l, Fine W (f x)) → FineA (l.length * (W + 1)) (l.map f)
  | [], _ => by
    rw [List.length_nil, Nat.zero_mul]
    exact FineA.nil
  | x :: l, h => by
    have q := FineA.cons (h x List.mem_cons_self) (FineA.map (l := l) fun y hy => h y (List.mem_cons_of_mem _ hy))
    rw [List.length_cons, Nat.succ_mul, Nat.add_comm]
    exact q
theorem FineA.list {W : Nat} {ds : List PyData} (a : FineA W ds) : Fine W (.list ds) := ⟨by rw [PyData.leavesShort]; exact a.l, by rw [PyData.showable]; exact a.s, by rw [PyData.weight]; exact a.w, by rw [PyData.hasDict]; exact a.h⟩
theorem FineA.tup {W : Nat} {ds : List PyData} (a : FineA W ds) : Fine W (.tuple ds) := ⟨by rw [PyData.leavesShort]; exact a.l, by rw [PyData.showable]; exact a.s, by rw [PyData.weight]; exact a.w, by rw [PyData.hasDict]; exact a.h⟩
theorem fine_int {n : Nat} (h : n < 1000) : Fine 11 (.int ((n : Nat) : Int)) := ⟨short_int h, show_int h, weigh_int h, by rw [PyData.hasDict]⟩
theorem fine_bool (b : Bool) : Fine 0 (.bool b) := ⟨by rw [PyData.leavesShort], by rw [PyData.showable], by rw [PyData.weight]; exact Nat.le_refl _, by rw [PyData.hasDict]⟩
theorem fine_str {x : Str} {W : Nat} (h : Low x) (hl : x.length ≤ W) : Fine W (.str x) := ⟨short_str h 13, by rw [PyData.showable], by rw [PyData.weight]; exact hl, by rw [PyData.hasDict]⟩
theorem Fine.fits {W : Nat} {d : PyData} (a : Fine W d) (h : W ≤ 2 ^ 20) : d.shown.length ≤ sizeLine := PyData.shown_fits (B := 13) (by decide) (by decide) a.l (Nat.le_trans a.w h)
def cD (c : Chg) : PyData := .tuple [.int (c.1 : Nat), .str (wd c.2.1), .int (c.2.2 : Nat)]
def eD (p : Nat × Str) : PyData := .tuple [.int (p.1 : Nat), .str p.2]
def stD (D : List (Nat × Str)) (cs : List Chg) : PyData := .list [.list (D.map eD), .list (cs.map cD), .int (D.length : Nat), .str (sesText D)]
theorem wd_low (b : Bool) : Low (wd b) ∧ (wd b).length ≤ 8 := by cases b <;> exact ⟨low_of (by decide +kernel), by decide +kernel⟩
theorem kv_short : ∀ {D : List (Nat × Str)}, entsOk D → PyData.leavesShortKv 13 (D.map fun p => (PyData.int (p.1 : Nat), PyData.str p.2)) = true ∧ PyData.weightKv (D.map fun p => (PyData.int (p.1 : Nat), PyData.str p.2)) ≤ D.length * 21
  | [], _ => ⟨rfl, Nat.zero_le _⟩
  | p :: D, h => by
    obtain ⟨h1, w, e, hw, hl⟩ := h p List.mem_cons_self
    obtain ⟨i1, i2⟩ := kv_short (D := D) fun q hq => h q (List.mem_cons_of_mem _ hq)
    have l2 : Low p.2 := by rw [e]; exact low_tx hw
    have w1 := weigh_int h1
    have w2 : (PyData.str p.2).weight ≤ 8 := by
      rw [PyData.weight, e]
      show (tx w).length ≤ 8
      rw [tx_len]; exact hl
    constructor
    · rw [List.map_cons, PyData.leavesShortKv, short_int h1, short_str l2, i1]; rfl
    · rw [List.map_cons, PyData.weightKv, List.length_cons]
      omega
theorem ses_len {D : List (Nat × Str)} (h : entsOk D) (hl : D.length ≤ 20) : (sesText D).length ≤ 10000 := by
  obtain ⟨i1, i2⟩ := kv_short h
  have q := PyData.shown_le 13 (by decide) (nsD D) (by unfold nsD; rw [PyData.leavesShort]; exact i1)
  have w : (nsD D).weight ≤ 420 := by
    unfold nsD
    rw [PyData.weight]
    have : D.length * 21 ≤ 420 := by omega
    omega
  have e : (sesText D).length = 8 + (nsD D).shown.length + 1 := by
    unfold sesText
    rw [strLen_append, strLen_append]
    rfl
  have : 15 * (nsD D).weight ≤ 15 * 420 := Nat.mul_le_mul_left _ w
  omega
theorem st_fine {D : List (Nat × Str)} {cs : List Chg} (h : entsOk D) (hl : D.length ≤ 20) (hc : ∀ c ∈ cs, c.1 < 1000 ∧ c.2.2 < 1000) (hcl : cs.length ≤ 20) : Fine (2 ^ 20) (stD D cs) := by
  have h1 : FineA (D.length * 23) (D.map eD) := FineA.map (W := 22) fun p hp => by
    obtain ⟨h1, w, e, hw, hl⟩ := h p hp
    exact (FineA.cons (fine_int h1) (FineA.cons (fine_str (W := 9) (by rw [e]; exact low_tx hw) (by rw [e, tx_len]; omega)) FineA.nil)).tup
  have h2 : FineA (cs.length * 34) (cs.map cD) := FineA.map (W := 33) fun c hc1 => by
    obtain ⟨h1, h2⟩ := hc c hc1
    exact (FineA.cons (fine_int h1) (FineA.cons (fine_str (W := 8) (wd_low _).1 (wd_low _).2) (FineA.cons (fine_int h2) FineA.nil))).tup
  have q := (FineA.cons h1.list (FineA.cons h2.list (FineA.cons (fine_int (n := D.length) (by omega)) (FineA.cons (fine_str (low_ses h) (ses_len h hl)) FineA.nil)))).list
  refine ⟨q.l, q.s, Nat.le_trans q.w ?_, q.h⟩
  have e : (2 : Nat) ^ 20 = 1048576 := by decide
  omega
theorem Rs.fine {r : Rs} (h : r.ok) : Fine 1000 (.list r.ds) := by
  have fin : ∀ {W : Nat} {ds : List PyData}, FineA W ds → W ≤ 1000 → Fine 1000 (.list ds) := fun a l => ⟨a.list.l, a.list.s, Nat.le_trans a.list.w l, a.list.h⟩
  have st : ∀ {x : Str}, Low x → x.length ≤ 20 → Fine 20 (.str x) := fun h l => fine_str h l
  cases r with
  | add e k => exact fin (FineA.cons (st (low_of (by decide +kernel)) (by decide +kernel)) (FineA.cons (fine_int (Nat.lt_trans h (by decide))) (FineA.cons (fine_bool k) FineA.nil))) (by decide)
  | rem => exact fin (FineA.cons (st (low_of (by decide +kernel)) (by decide +kernel)) FineA.nil) (by decide)
  | ent e =>
    have hl : ((toString ((e : Nat) : Int) : String) : Str).length ≤ 20 := by
      have := PyData.shown_int_le (i := ((e : Nat) : Int)) (by have : e < 16 := h; show e < _; omega)
      rw [PyData.shown_int] at this
      omega
    exact fin (FineA.cons (st (low_of (by decide +kernel)) (by decide +kernel)) (FineA.cons (st (low_int _) hl) FineA.nil)) (by decide)
  | nth u => exact fin (FineA.cons (st (low_of (by decide +kernel)) (by decide +kernel)) (FineA.cons (fine_int (Nat.lt_trans h (by decide))) FineA.nil)) (by decide)
  | und b e => exact fin (FineA.cons (st (low_of (by decide +kernel)) (by decide +kernel)) (FineA.cons (fine_str (W := 20) (wd_low b).1 (Nat.le_trans (wd_low b).2 (by decide))) (FineA.cons (fine_int (Nat.lt_trans h (by decide))) FineA.nil))) (by decide)
theorem Rs.deep (r : Rs) : (PyData.list r.ds).depth ≤ 60 := by
  cases r <;> simp [Rs.ds, PyData.depth, PyData.depthAll]
theorem depthAll_map {α : Type} {f : α → PyData} {n : Nat} : ∀ {l : List α}, (∀ x ∈ l, (f x).depth ≤ n) → PyData.depthAll (l.map f) ≤ n
  | [], _ => by rw [List.map_nil, PyData.depthAll]; exact Nat.zero_le _
  | x :: l, h => by
    rw [List.map_cons, PyData.depthAll]
    exact Nat.max_le.mpr ⟨h x List.mem_cons_self, depthAll_map fun y hy => h y (List.mem_cons_of_mem _ hy)⟩
theorem st_deep (D : List (Nat × Str)) (cs : List Chg) : (stD D cs).depth ≤ 60 := by
  have h1 : PyData.depthAll (D.map eD) ≤ 1 := depthAll_map fun p _ => by simp [eD, PyData.depth, PyData.depthAll]
  have h2 : PyData.depthAll (cs.map cD) ≤ 1 := depthAll_map fun p _ => by simp [cD, PyData.depth, PyData.depthAll]
  unfold stD
  simp only [PyData.depth, PyData.depthAll]
  omega
end K73
set_option Elab.async false
set_option linter.all false
set_option maxRecDepth 100000
set_option maxHeartbeats 4000000
/-! K73LawK: a drawn change; the state of the session and of the model. -/
namespace K73
open PySem PySem.Spec PyProof.Rows L2
abbrev lState : Stmt := topS 64
abbrev lDue : Stmt := topS 65
abbrev lChange : Stmt := topS 66
/-! ### what stays -/
def NoTup (S : List Addr) (H : Hp) : Prop := ∀ b ∈ S, ∀ xs, H b ≠ some (.tup xs)
theorem Touch.tup {S : List Addr} {H H' : Hp} (t : Touch S H H') (n : NoTup S H) : TupS H H' := fun b xs h => t _ _ h fun m => n b m xs h
theorem MB.touch {S : List Addr} {H H' : Hp} {o : MA} {added : List (List Nat)} {cs : List Chg} {n : Nat} {LM : List V} (B : MB H o added cs n LM) (t : Touch S H H') (nt : NoTup S H) (h1 : o.m ∉ S) (h2 : o.a ∉ S) (h3 : o.c ∉ S) (h4 : o.k ∉ S) : MB H' o added cs n LM :=
  ⟨t _ _ B.m h1, t _ _ B.a h2, t _ _ B.c h3, t _ _ B.k h4, B.r.to (t.tup nt), B.d⟩
theorem SB.touch {S : List Addr} {C : Addr} {H H' : Hp} {o : SA} {added : List (List Nat)} {cs : List Chg} {n : Nat} {LC : List V} (B : SB C H o added cs n LC) (t : Touch S H H') (nt : NoTup S H) (h1 : o.p ∉ S) (h2 : o.a ∉ S) (h3 : o.c ∉ S) : SB C H' o added cs n LC :=
  ⟨t _ _ B.p h1, t _ _ B.a h2, t _ _ B.c h3, B.r.to (t.tup nt), B.ne⟩
theorem PoolAt.touch {S : List Addr} {H H' : Hp} {l : Addr} (p : PoolAt H l) (t : Touch S H H') (h : l ∉ S) : PoolAt H' l := let ⟨x, y, e, r⟩ := p; ⟨x, y, t _ _ e h, r⟩
theorem PoolAt.noTup {H : Hp} {l : Addr} (p : PoolAt H l) : NoTup [l] H := fun b hb xs h => by
  rw [List.mem_singleton.mp hb] at h
  obtain ⟨_, e⟩ := p.lst
  rw [e] at h
  cases h
theorem MB.noTup {H : Hp} {o : MA} {added : List (List Nat)} {cs : List Chg} {n : Nat} {LM : List V} (B : MB H o added cs n LM) : NoTup [o.a, o.c, o.k] H := fun b hb xs h => B.tup h hb
theorem SB.noTup {C : Addr} {H : Hp} {o : SA} {added : List (List Nat)} {cs : List Chg} {n : Nat} {LC : List V} (B : SB C H o added cs n LC) : NoTup [o.p, o.a, o.c] H := fun b hb xs h => by
  obtain ⟨h1, h2, h3⟩ := B.tup h
  simp only [List.mem_cons, List.not_mem_nil, or_false] at hb
  rcases hb with z | z | z
  · exact h1 z
  · exact h2 z
  · exact h3 z
/-! ### data in the heap -/
theorem dp_ents {K : PySem.W.Frag} {H H' : Hp} : ∀ {D : List (Nat × Str)} {ts : List Addr}, (∀ b xs, H b = some (.tup xs) → H' b = some (.tup xs)) → Paired (fun (t : Addr) (q : L2.Key × V) => H t = some (.tup [kV q.1, q.2])) ts (entK D) → DpAll K H' (ts.map V.ref) (D.map eD)
  | [], ts, _, h => by
    cases h
    exact .nil
  | p :: D, ts, hs, h => by
    cases h with
    | cons h1 h2 => exact .cons (.tup (SqT.of (hs _ _ h1)) (.cons (.int _) (.cons (.str _) .nil))) (dp_ents hs h2)
theorem dp_chg {K : PySem.W.Frag} {H : Hp} : ∀ {LC : List V} {cs : List Chg}, CRel H LC cs → DpAll K H LC (cs.map cD)
  | [], [], _ => .nil
  | [], c :: cs, h => by
    have := h.1
    cases this
  | x :: LC, [], h => by
    have := h.1
    cases this
  | x :: LC, c :: cs, h => by
    obtain ⟨b, e1, e2⟩ := h.2 0 c rfl
    have ex : x = .ref b := Option.some.inj e1
    subst ex
    exact .cons (.tup (SqT.of e2) (.cons (.int _) (.cons (.str _) (.cons (.int _) .nil)))) (dp_chg ⟨Nat.succ.inj h.1, fun i e hi => h.2 (i + 1) e hi⟩)
/-! ### repr of a list of data -/
def rReprL (K : PySem.W.Frag) : List V → Hp → VK → Prop := fun xs H Q => ∃ a d W, xs = [.ref a] ∧ Dp K H (.ref a) d ∧ Fine W d ∧ W ≤ 2 ^ 20 ∧ d.depth ≤ 60 ∧ Q (.str d.shown) H
theorem call_reprL {X : Cx} (st : Still X.A) (hu : X.A.units + 64 < cLine) : CallR X (.builtin "repr") (rReprL X.K) := by
  intro pins s σ H xs us Q I r h
  obtain ⟨a, d, W, rfl, hd, hf, hW, hdep, q⟩ := h
  obtain rfl := Vals.ref1 r
  obtain ⟨as, rd⟩ := Dp.reads I d (.ref a) (.ref a) hd rfl
  exact repr_of_reads' rd hf.s (fun z => by rw [hf.h] at z; cases z) st (by omega) (fun b o e => e) (fun h' u tk k => ⟨.str d.shown, H, I.kept k, ⟨_, rfl⟩, q⟩) (hf.fits hW)
/-! ### an own method that a built-in function calls -/
structure HasO (P : Program) (w : World) (K : PySem.W.Frag) (mg : Str → Option Value) (base : Heap) (k : Nat) (C : Addr) (m : Str) (ps : List Str) (sp : Sp) : Prop where
  ex : ∃ (f : Addr) (fd : FuncData), PySem.W.findIn K (.ref C) m = some (some (.ref f)) ∧ PySem.W.isFn K (.ref f) = true ∧ Binds K fd ps [] ∧ FnS P w K mg base k f fd ps sp
section
variable {X : Cx} {k : Nat} {C : Addr} {ps : List Str} {sp : Sp}
theorem cr_len (Z : HasO X.prog X.w X.K X.mg X.base k C "__len__" ps sp) (st : Still X.A) (hr : Room (k + 1) X.A) : CallR X (.builtin "len") (rOwn1 C sp fun v H' Q => ∃ n : Int, v = .int n ∧ 0 ≤ n ∧ n < 2 ^ 63 ∧ Q (.int n) H') := by
  obtain ⟨f, fd, h1, h2, b, F⟩ := Z.ex
  exact call_lenOwn F st hr b h1 h2
theorem cr_repr (Z : HasO X.prog X.w X.K X.mg X.base k C "__repr__" ps sp) (st : Still X.A) (hr : Room (k + 1) X.A) : CallR X (.builtin "repr") (rOwn1 C sp fun v H' Q => ∃ z : Str, v = .str z ∧ Q (.str z) H') := by
  obtain ⟨f, fd, h1, h2, b, F⟩ := Z.ex
  exact call_reprOwn F st hr b h1 h2
end
theorem ents_ok {s : S3} {N : Nat} (h : s.Ok N) (hN : N ≤ 900) : entsOk (ents s.a s.c) := fun p hp => by
  obtain ⟨i, hi, rfl⟩ := List.mem_map.mp hp
  have hl := List.mem_range.mp (List.mem_filter.mp hi).1
  have ha := h.a
  refine ⟨by show i < 1000; omega, (s.a[i]?).getD [], rfl, ?_⟩
  rw [List.getElem?_eq_getElem hl]
  exact h.w _ (List.getElem_mem _)
theorem ents_len {added : List (List Nat)} {cs : List Chg} : (ents added cs).length = (curL added cs).length := by rw [ents, List.length_map]
theorem st_ok {s : S3} {N : Nat} (h : s.Ok N) (hN : N ≤ 20) : Fine (2 ^ 20) (stD (ents s.a s.c) s.c) := by
  refine st_fine (ents_ok h (by omega)) ?_ (fun c hc => ?_) (Nat.le_trans h.c hN)
  · rw [ents_len]
    exact Nat.le_trans curL_len (Nat.le_trans h.a hN)
  · have := h.e c hc
    have := h.a
    omega
def stTxt (s : S3) : Str := (stD (ents s.a s.c) s.c).shown
def spState (C : Addr) : Sp := fun vs H Q _ => ∃ (o : SA) (s : S3) (LC : List V), vs = [.ref o.p] ∧ SB C H o s.a s.c s.n LC ∧ s.Ok 15 ∧ ∀ H', Same H H' → Q (.str (stTxt s)) H'
def spDue : Sp := fun vs H Q _ => ∃ (o : MA) (s : S3) (LM : List V), vs = [.ref o.m] ∧ MB H o s.a s.c s.n LM ∧ s.Ok 15 ∧ ∀ H', Same H H' → Q (.str (stTxt s)) H'
def spChange : Sp := fun vs H Q _ => ∃ (l : Addr) (o : MA) (s : S3) (LM : List V), vs = [.ref l, .ref o.m] ∧ PoolAt H l ∧ MB H o s.a s.c s.n LM ∧ l ∉ [o.m, o.a, o.c, o.k] ∧ s.Ok 14 ∧ ∀ H' t u op, Touch [l] H H' → PoolAt H' l → H' t = some (.tup (opV u op)) → u < 4 → op.ok → Q (.ref t) H'
section
variable {P : Program} {w : World} {K : PySem.W.Frag} {mg : Str → Option Value} {base : Heap} {f C : Addr} {fd : FuncData}
theorem scState : FnScope ["_law_session"] ["_law_session"] (defScope lState) := ⟨rfl, rfl, rfl, by decide +kernel, rfl, by decide +kernel, by decide +kernel⟩
theorem ok_state (F : FnP K "_law_state" lState f fd) (B : Bi mg) (T : SST K C) (ZE : HasM P w K mg base 2 C "entries" ["self"] (spEntries C)) (ZH : HasM P w K mg base 1 C "history" ["self"] (spHist C)) (ZL : HasO P w K mg base 3 C "__len__" ["self"] (spLen C)) (ZR : HasO P w K mg base 3 C "__repr__" ["self"] (spRepr C)) :
    FnS P w K mg base 5 f fd ["_law_session"] (spState C) := by
  refine fnS F scState (fun vs H Q E h => ?_) (fun cdv A outer s H vs Q E hr st h => ⟨_, PSs.nox (pss_one (ps_ret (pe_callB (call_reprL st (room64 hr)) rfl B.repr (by decide +kernel) (pa_cons (pe_lst (pa_cons (LiI.pe_listItems rfl (pe_hm0 ZE T.cl (hr.mono (by decide)) (pv 0)) rfl B.list (by decide +kernel)) (pa_cons (pe_hm0 ZH T.cl (hr.mono (by decide)) (pv 0)) (pa_cons (pe_callB (cr_len ZL st hr) rfl B.len PySem.boot_len (pa_cons (pv 0) pa_nil)) (pa_cons (pe_callB (cr_repr ZR st hr) rfl B.repr (by decide +kernel) (pa_cons (pv 0) pa_nil)) pa_nil))))) pa_nil)))), ?_⟩)
  · obtain ⟨o, s, LC, rfl, _⟩ := h; rfl
  · obtain ⟨o, s, LC, rfl, B0, ok, q⟩ := h
    have hal : s.a.length ≤ 15 := ok.a
    have hcl : s.c.length ≤ 15 := ok.c
    have cl := curL_len (added := s.a) (cs := s.c)
    refine ⟨_, rfl, o.p, o.dx, _, rfl, B0.p, ssf_no (by decide +kernel), ?_⟩
    refine ⟨o, s.a, s.c, s.n, LC, rfl, B0, by omega, by omega, fun H1 d s1 nd hd => ⟨d, _, rfl, hd, fun H2 p ts k2 np nts pts hp pr => ?_⟩⟩
    have s2 : Same H H2 := s1.trans k2
    have B2 := B0.same s2
    refine ⟨_, rfl, o.p, o.dx, _, rfl, B2.p, ssf_no (by decide +kernel), ?_⟩
    refine ⟨o, s.a, s.c, s.n, LC, rfl, B2, fun H3 l s3 hl => ?_⟩
    have B3 := B2.same s3
    refine ⟨_, rfl, o.p, o.dx, _, rfl, B3.p, o, s.a, s.c, s.n, LC, rfl, B3, by omega, by omega, fun H4 s4 => ⟨_, rfl, (by omega), (by omega), ?_⟩⟩
    have B4 := B3.same s4
    refine ⟨_, rfl, o.p, o.dx, _, rfl, B4.p, o, s.a, s.c, s.n, LC, rfl, B4, by omega, by omega, Nat.le_trans (ses_len (ents_ok ok (by decide)) (by rw [ents_len]; omega)) (by decide), fun H5 s5 => ⟨_, rfl, (by show 4 ≤ sizeLine; decide), fun r nr => ?_⟩⟩
    have s6 := same_new (o := .lst [.ref p, .ref l, .int ((curL s.a s.c).length : Nat), .str (sesText (ents s.a s.c))]) nr
    have s36 := ((s3.trans s4).trans s5).trans s6
    refine ⟨r, stD (ents s.a s.c) s.c, 2 ^ 20, rfl, .lst (SqL.of upd_same) (.cons (.lst (SqL.of (s36 _ _ hp)) (dp_ents (fun b xs h => s36 _ _ h) pr)) (.cons (.lst (SqL.of ((s4.trans s5).trans s6 _ _ hl)) (dp_chg (B2.r.to (samT s36)))) (.cons (by rw [ents_len]; exact .int _) (.cons (.str _) .nil)))), st_ok ok (by decide), Nat.le_refl _, st_deep _ _, ?_⟩
    exact q _ (s2.trans s36)
def nsDue : List Str := ["_law_model", "_law_entries", "_law_entry", "_law_text"]
theorem scDue : FnScope nsDue ["_law_model"] (defScope lDue) := ⟨rfl, rfl, rfl, by decide +kernel, rfl, by decide +kernel, by decide +kernel⟩
theorem ents_take (added : List (List Nat)) (cs : List Chg) : ents added cs = (curL added cs).map fun i => (i, tx ((added[i]?).getD [])) := rfl
theorem ok_due (F : FnP K "_law_due" lDue f fd) (B : Bi mg) (ZC : Has P w K mg base 1 "_law_current" ["_law_model"] spCurrent) : FnS P w K mg base 2 f fd ["_law_model"] spDue := by
  refine fnS F scDue (fun vs H Q E h => ?_) (fun cdv A outer s H vs Q E hr st h => ⟨_, PSs.nox (pss_cons (ps_set (i := 1) scDue.nd rfl (Or.inl rfl) pe_dnewK)
    (pss_cons (ps_for PassesOwn.never rfl (pi_list (pe_h ZC hr (pa_cons (pv 0) pa_nil))) (pg_name (i := 2) scDue.nd rfl (Or.inl rfl))
      (pss_one (ps_dput (hu_of hr) (pv 1) (pv 2) (pe_ix ix_list (pe_ix ix_list (pv 0) pe_int (fun _ _ => rfl)) (pv 2) (fun _ _ => rfl)) rfl)))
    (pss_cons (ps_set (i := 3) scDue.nd rfl (Or.inl rfl) (pe_op op_add_str (pe_op op_add_str pe_str (pe_callB (call_repr st (room64 hr)) rfl B.repr (by decide +kernel) (pa_cons (pv 1) pa_nil))) pe_str))
    (pss_one (ps_ret (pe_callB (call_reprL st (room64 hr)) rfl B.repr (by decide +kernel) (pa_cons (pe_lst (pa_cons (LiI.pe_listItems rfl (pv 1) rfl B.list (by decide +kernel)) (pa_cons (pe_ix ix_list (pv 0) pe_int (fun _ _ => rfl)) (pa_cons (pe_callB call_lenD rfl B.len PySem.boot_len (pa_cons (pv 1) pa_nil)) (pa_cons (pv 3) pa_nil))))) pa_nil))))))), ?_⟩)
  · obtain ⟨o, s, LC, rfl, _⟩ := h; rfl
  · obtain ⟨o, s, LM, rfl, M, ok, q⟩ := h
    have hal : s.a.length ≤ 15 := ok.a
    have hcl : s.c.length ≤ 15 := ok.c
    have cl := curL_len (added := s.a) (cs := s.c)
    have e6 : sizeLine = 16777216 := by decide
    refine fun d nd => ?_
    have s1 := same_new (o := .dK []) nd
    have M1 := M.same s1
    refine ⟨_, rfl, o, s.a, s.c, s.n, LM, rfl, M1, by omega, by omega, fun H2 l s2 nl hl => ?_⟩
    have hd2 := s2 _ _ (upd_same (H := H) (a := d) (o := .dK []))
    have ld : l ≠ d := fun z => by
      rw [z, upd_same] at nl
      cases nl
    have ll : (nums (curL s.a s.c)).length = (curL s.a s.c).length := by rw [nums, List.length_map]
    refine ⟨l, rfl, ⟨_, SqL.of hl⟩, for_list (K := K) (a := l) (xs := nums (curL s.a s.c)) (fun i σ H' => ∃ z2 z3 : Option V, σ = [some (.ref o.m), some (.ref d), z2, z3] ∧ Touch [d] H2 H' ∧ Same H H' ∧ H' d = some (.dK (entK (((curL s.a s.c).take i).map fun i => (i, tx ((s.a[i]?).getD []))))))
      ⟨_, _, rfl, fun b u h _ => h, s1.trans s2, hd2⟩ (fun i σ H' _ ⟨_, _, _, t, _⟩ => SqL.of (t _ _ hl (by simpa using ld))) (fun i x σ H3 hx p => ?_) (fun σ H3 p => ?_)⟩
    · obtain ⟨z2, z3, rfl, t3, s3, hd3⟩ := p
      rw [nums, List.getElem?_map] at hx
      obtain ⟨j, hj, rfl⟩ := Option.map_eq_some_iff.mp hx
      have hjm := List.mem_filter.mp (List.mem_of_getElem? hj)
      have hjl : j < s.a.length := List.mem_range.mp hjm.1
      have ea : s.a[j]? = some s.a[j] := List.getElem?_eq_getElem hjl
      have ew : (words s.a)[j]? = some (.str (tx s.a[j])) := by rw [words, List.getElem?_map, ea]; rfl
      have M3 := M.same s3
      have hir : IsReq (entK (((curL s.a s.c).take i).map fun i => (i, tx ((s.a[i]?).getD [])))) ((curL s.a s.c).take i) := by
        unfold IsReq entK
        rw [List.map_map, List.map_map]
        rfl
      have ndc : (curL s.a s.c).Pairwise (· < ·) := List.Pairwise.filter _ List.pairwise_lt_range
      have hni : j ∉ (curL s.a s.c).take i := fun hm => by
        obtain ⟨i2, h2, e2⟩ := List.mem_iff_getElem.mp hm
        rw [List.getElem_take] at e2
        rw [List.length_take] at h2
        have hi := (List.getElem?_eq_some_iff.mp hj)
        obtain ⟨hil, hie⟩ := hi
        have := List.pairwise_iff_getElem.mp ndc i2 i (by omega) hil (by omega)
        omega
      have hnone : valV (entK (((curL s.a s.c).take i).map fun i => (i, tx ((s.a[i]?).getD [])))) (nk j) = none := by
        have q := hir.some (n := j)
        rw [decide_eq_false hni] at q
        cases e : valV (entK (((curL s.a s.c).take i).map fun i => (i, tx ((s.a[i]?).getD [])))) (nk j) with
        | none => rfl
        | some v => rw [e] at q; cases q
      have hlen : (entK (((curL s.a s.c).take i).map fun i => (i, tx ((s.a[i]?).getD [])))).length ≤ 15 := by
        rw [entK, List.length_map, List.length_map, List.length_take]; omega
      refine ⟨_, rfl, o.m, _, 0, _, rfl, rfl, SqL.of M3.m, atI_nat (j := 0) rfl, _, rfl, o.a, _, (j : Nat), _, rfl, rfl, SqL.of M3.a, atI_nat ew, ?_⟩
      refine ⟨_, rfl, _, rfl, d, _, rfl, DPut.k (k := nk j) hd3 (by rw [e6]; omega), ?_⟩
      rw [putK_new _ hnone]
      refine ⟨_, _, rfl, t3.trans (Touch.upd (by simp)), same_upd s3 nd, ?_⟩
      rw [upd_same, List.take_add_one, hj, entK, entK, List.map_append, List.map_append]
      show _ = some (HO.dK (_ ++ [(nk j, V.str (tx ((s.a[j]?).getD [])))]))
      rw [ea]
      rfl
    · obtain ⟨z2, z3, rfl, t3, s3, hd3⟩ := p
      rw [ll, List.take_length] at hd3
      have hd3 : H3 d = some (.dK (entK (ents s.a s.c))) := hd3
      have eo := ents_ok ok (by decide)
      have el : (ents s.a s.c).length ≤ 15 := by rw [ents_len]; omega
      have sl := ses_len eo (by omega)
      have e1 : (sesText (ents s.a s.c)).length = 8 + (nsD (ents s.a s.c)).shown.length + 1 := by
        unfold sesText
        rw [strLen_append, strLen_append]
        rfl
      have e2 : (("Session(" : Str) ++ (nsD (ents s.a s.c)).shown).length = 8 + (nsD (ents s.a s.c)).shown.length := by
        rw [strLen_append]
        rfl
      refine ⟨_, rfl, d, nsD (ents s.a s.c), rfl, .inr ⟨ents s.a s.c, hd3, fun p hp => (eo p hp).1, rfl⟩, by rw [e6]; omega, _, _, rfl, rfl, ?_, _, _, rfl, rfl, ?_, ?_⟩
      · have e8 : ("Session(" : Str).length = 8 := by decide +kernel
        rw [e6, e8]; omega
      · have e8 : (")" : Str).length = 1 := by decide +kernel
        rw [e6, e2, e8]; omega
      have M3 := M.same s3
      refine ⟨_, rfl, d, _, rfl, hd3, fun H4 p ts k4 np nts pts hp pr => ?_⟩
      have M4 := M3.same k4
      refine ⟨_, rfl, o.m, _, 1, _, rfl, rfl, SqL.of M4.m, atI_nat (j := 1) rfl, _, rfl, d, _, rfl, k4 _ _ hd3, _, rfl, (by show 4 ≤ sizeLine; decide), fun r nr => ?_⟩
      have hkl : (entK (ents s.a s.c)).length = (ents s.a s.c).length := by rw [entK, List.length_map]
      rw [hkl]
      have s5 := same_new (o := .lst [.ref p, .ref o.c, .int ((ents s.a s.c).length : Nat), .str (sesText (ents s.a s.c))]) nr
      refine ⟨r, stD (ents s.a s.c) s.c, 2 ^ 20, rfl, .lst (SqL.of upd_same) (.cons (.lst (SqL.of (s5 _ _ hp)) (dp_ents (fun b xs h => s5 _ _ h) pr)) (.cons (.lst (SqL.of (s5 _ _ M4.c)) (dp_chg (M4.r.to (samT s5)))) (.cons (.int _) (.cons (.str _) .nil)))), st_ok ok (by decide), Nat.le_refl _, st_deep _ _, ?_⟩
      exact q _ ((s3.trans k4).trans s5)
end
end K73
set_option Elab.async false
set_option linter.all false
set_option maxRecDepth 100000
set_option maxHeartbeats 4000000
/-! K73LawL: a drawn change. -/
namespace K73
open PySem PySem.Spec PyProof.Rows L2
section
variable {P : Program} {w : World} {K : PySem.W.Frag} {mg : Str → Option Value} {base : Heap} {f C : Addr} {fd : FuncData}
def nsChange : List Str := ["_law_pool_here", "_law_model", "_law_who", "_law_kind", "_law_path_here", "_law_known"]
theorem scChange : FnScope nsChange ["_law_pool_here", "_law_model"] (defScope lChange) := ⟨rfl, rfl, rfl, by decide +kernel, rfl, by decide +kernel, by decide +kernel⟩
theorem ok_change (F : FnP K "_law_change" lChange f fd) (B : Bi mg) (ZD : Has P w K mg base 1 "_law_draw" ["_law_pool_here", "_law_bound"] spDraw) (ZP : Has P w K mg base 2 "_law_path" psPath spPath) (ZQ : Has P w K mg base 3 "_law_product" psProduct (spProduct K)) (ZS : Has P w K mg base 2 "_law_short" ["_law_path_here"] spShort)
    (ZL : Has P w K mg base 2 "_law_listed" ["_law_model"] spListed) : FnOk P w K mg base CX0 4 f fd ["_law_pool_here", "_law_model"] spChange := by
  refine F.ok scChange (fun vs H Q E h => ?_) (fun cdv A outer s H vs Q E hr h => ⟨_, PSs.nox (pss_cons (ps_set (i := 2) scChange.nd rfl (Or.inl rfl) (pe_h ZD (hr.mono (by decide)) (pa_cons (pv 0) (pa_cons pe_int pa_nil))))
    (pss_cons (ps_set (i := 3) scChange.nd rfl (Or.inl rfl) (pe_h ZD (hr.mono (by decide)) (pa_cons (pv 0) (pa_cons pe_int pa_nil))))
    (pss_cons (ps_if (pt_cmpR op_lt (pv 3) pe_int (nomark _))
      (pss_cons (ps_set (i := 4) scChange.nd rfl (Or.inl rfl) (pe_h ZP (hr.mono (by decide)) (pa_cons (pv 0) (pa_cons pe_int (pa_cons pe_int pa_nil)))))
      (pss_cons (ps_set (i := 5) scChange.nd rfl (Or.inl rfl) (pe_h ZS (hr.mono (by decide)) (pa_cons (pe_h ZQ hr (pa_cons (pv 0) (pa_cons (pe_h ZL (hr.mono (by decide)) (pa_cons (pv 1) pa_nil)) (pa_cons pe_int pa_nil)))) pa_nil)))
      (pss_cons (ps_if (PW.pt (pw_and (pt_cmpR op_eq (pv 3) pe_int (nomark _)) (pw_and1 (pt_cmpR op_le (pe_callB call_len_str rfl B.len PySem.boot_len (pa_cons (pv 5) pa_nil)) pe_int (nomark _))))) (pss_one (ps_set (i := 4) scChange.nd rfl (Or.inl rfl) (pv 5))) pss_nil)
      (pss_one (ps_ret (pe_tup (pa_cons pe_str (pa_cons (pv 4) (pa_cons (pv 2) pa_nil))))))))) pss_nil)
    (pss_cons (ps_if (pt_cmpR op_lt (pv 3) pe_int (nomark _))
      (pss_one (ps_ret (pe_tup (pa_cons pe_str (pa_cons (pe_h ZD (hr.mono (by decide)) (pa_cons (pv 0) (pa_cons (pe_op op_add (pe_callB call_len_seq rfl B.len PySem.boot_len (pa_cons (pe_ix ix_list (pv 1) pe_int (fun _ _ => rfl)) pa_nil)) pe_int) pa_nil))) (pa_cons (pv 2) pa_nil)))))) pss_nil)
    (pss_one (ps_ret (pe_tup (pa_cons pe_str (pa_cons pe_non (pa_cons (pv 2) pa_nil)))))))))), ?_⟩)
  · obtain ⟨l, o, s, LM, rfl, _⟩ := h; rfl
  · obtain ⟨l, o, s, LM, rfl, p0, M, hl, ok, q⟩ := h
    have hal : s.a.length ≤ 14 := ok.a
    have hcl : s.c.length ≤ 14 := ok.c
    have cl := curL_len (added := s.a) (cs := s.c)
    have la : (words s.a).length = s.a.length := by rw [words, List.length_map]
    simp only [List.mem_cons, List.not_mem_nil, or_false, not_or] at hl
    obtain ⟨l1, l2, l3, l4⟩ := hl
    have keep : ∀ {H' : Hp}, Touch [l] H H' → MB H' o s.a s.c s.n LM := fun t => M.touch t p0.noTup (by simpa using Ne.symm l1) (by simpa using Ne.symm l2) (by simpa using Ne.symm l3) (by simpa using Ne.symm l4)
    have tups : ∀ {H1 : Hp} (t : Addr) (xs : List V), Touch [l] H H1 → H1 t = none → Touch [l] H (L2.upd H1 t (.tup xs)) := fun t xs h n => h.trans (Touch.of (same_new n))
    refine ⟨_, rfl, l, 4, rfl, p0, by decide, by decide, fun H1 u hu t1 p1 => ?_⟩
    refine ⟨_, rfl, l, 8, rfl, p1, by decide, by decide, fun H2 kd hk t2 p2 => ?_⟩
    have t2 := t1.trans t2
    refine ⟨_, rfl, _, _, rfl, rfl, _, rfl, iteD (fun _ => ?_) fun _ => ?_⟩
    · refine ⟨_, rfl, l, rfl, p2, fun H3 w t3 p3 hw hwl => ?_⟩
      have t3 := t2.trans t3
      have M3 := keep t3
      refine ⟨_, rfl, _, rfl, o, s.a, s.c, s.n, LM, rfl, M3, by omega, by omega, fun H4 a s4 na ha => ?_⟩
      have p4 := p3.same s4
      obtain ⟨_, pl⟩ := p3.lst
      have al : a ≠ l := fun z => by rw [z, pl] at na; cases na
      have hcw : (curW s.a s.c).length = (curL s.a s.c).length := by rw [curW, List.length_map]
      refine ⟨l, a, curW s.a s.c, rfl, p4, ha, al, fun v hv => ok.w v (curW_mem hv), by omega, fun H5 v t5 p5 hv hvl => ?_⟩
      have t5 := (t3.trans (Touch.of s4)).trans t5
      have rl := red_len v
      refine ⟨v, rfl, hv, by omega, fun H6 s6 => ?_⟩
      have t6 := t5.trans (Touch.of s6)
      have p6 := p5.same s6
      have fin : ∀ (v : List Nat), Steps v → v.length ≤ 8 → ∀ t, H6 t = none → Q (.ref t) (L2.upd H6 t (.tup (opV u (.add v)))) := fun v h1 h2 t nt => q _ t u (.add v) (tups t _ t6 nt) (p6.same (same_new nt)) upd_same hu ⟨h1, h2⟩
      refine ⟨_, rfl, rfl, _, rfl, iteD (fun _ => ?_) fun _ => ?_⟩
      · refine ⟨_, rfl, _, rfl, (by rw [tx_len]; have e6 : sizeLine = 16777216 := (by decide); rw [e6]; omega), _, _, rfl, rfl, _, rfl, iteD (fun h8 => ?_) fun _ => ?_⟩
        · rw [tx_len] at h8
          refine ⟨_, rfl, ?_⟩
          refine ⟨_, rfl, _, rfl, (by show 3 ≤ sizeLine; decide), fun t nt => ?_⟩
          exact fin (red v) (red_steps hv) (by omega) t nt
        · refine ⟨_, rfl, _, rfl, (by show 3 ≤ sizeLine; decide), fun t nt => ?_⟩
          exact fin w hw (by omega) t nt
      · refine ⟨_, rfl, _, rfl, (by show 3 ≤ sizeLine; decide), fun t nt => ?_⟩
        exact fin w hw (by omega) t nt
    · refine ⟨_, rfl, _, _, rfl, rfl, _, rfl, iteD (fun _ => ?_) fun _ => ?_⟩
      · have M2 := keep t2
        refine ⟨_, rfl, _, rfl, o.m, _, 0, _, rfl, rfl, SqL.of M2.m, atI_nat (j := 0) rfl, o.a, _, rfl, .inl (SqL.of M2.a), _, _, rfl, rfl, ?_⟩
        refine ⟨l, (words s.a).length + 1, rfl, p2, by omega, by omega, fun H3 e he t3 p3 => ?_⟩
        rw [la] at he
        refine ⟨_, rfl, (by show 3 ≤ sizeLine; decide), fun t nt => ?_⟩
        exact q _ t u (.rem e) (tups t _ (t2.trans t3) nt) (p3.same (same_new nt)) upd_same hu (by show e < 16; omega)
      · refine ⟨_, rfl, (by show 3 ≤ sizeLine; decide), fun t nt => ?_⟩
        exact q _ t u .und (tups t _ t2 nt) (p2.same (same_new nt)) upd_same hu trivial
end
end K73
set_option Elab.async false
set_option linter.all false
set_option maxRecDepth 100000
set_option maxHeartbeats 4000000
/-! K73LawM: everything is undone. -/
namespace K73
open PySem PySem.Spec PyProof.Rows L2
abbrev lEmptied : Stmt := topS 67
/-! ### in plain -/
theorem und_ok {s : S3} {N u : Nat} (h : s.Ok N) : (step s u .und).1.Ok N := by
  cases z : lastOwn s.c u with
  | none =>
    have es : step s u .und = (s, .nth u) := by unfold step; rw [z]
    rw [es]; exact h
  | some k =>
    obtain ⟨c, ek, _⟩ := lastOwn_some z
    have es : step s u .und = (⟨s.a, s.c.eraseIdx k, s.n⟩, .und c.2.1 c.2.2) := by unfold step; rw [z]; simp only [ek, Option.getD_some]
    rw [es]
    exact ⟨h.a, Nat.le_trans (List.length_eraseIdx_le _ _) h.c, h.n, h.w, fun x hx => h.e x (List.mem_of_mem_eraseIdx hx)⟩
theorem und_len {s : S3} {u e : Nat} {c : Chg} (h : s.c[e]? = some c) (hu : c.1 = u) : (step s u .und).1.c.length + 1 = s.c.length := by
  have he := (List.getElem?_eq_some_iff.mp h).1
  have mem : e ∈ ownL s.c u := List.mem_filter.mpr ⟨List.mem_range.mpr he, by rw [h]; exact decide_eq_true hu⟩
  cases z : lastOwn s.c u with
  | none =>
    have : ownL s.c u = [] := List.getLast?_eq_none_iff.mp z
    rw [this] at mem
    cases mem
  | some k =>
    obtain ⟨c2, ek, _⟩ := lastOwn_some z
    have es : step s u .und = (⟨s.a, s.c.eraseIdx k, s.n⟩, .und c2.2.1 c2.2.2) := by unfold step; rw [z]; simp only [ek, Option.getD_some]
    rw [es]
    have hk := (List.getElem?_eq_some_iff.mp ek).1
    show (s.c.eraseIdx k).length + 1 = _
    rw [List.length_eraseIdx, if_pos hk]
    omega
theorem und_nil {s : S3} {u : Nat} (h : s.c = []) : step s u .und = (s, .nth u) := by
  have z : lastOwn s.c u = none := by rw [h]; rfl
  unfold step
  rw [z]
theorem curL_nil (added : List (List Nat)) : curL added [] = [] := by
  unfold curL
  exact List.filter_eq_nil_iff.mpr fun x _ => by unfold cur; simp
/-! ### the session, the model and the pool -/
structure LB (C : Addr) (H : Hp) (o : SA) (m : MA) (l : Addr) (s s' : S3) : Prop where
  es : ∃ LC, SB C H o s.a s.c s.n LC
  em : ∃ LM, MB H m s'.a s'.c s'.n LM
  ep : PoolAt H l
  ed : [o.p, o.a, o.c, m.m, m.a, m.c, m.k, l].Nodup
def LS (o : SA) (m : MA) (l : Addr) : List Addr := [o.p, o.a, o.c, m.a, m.c, m.k, l]
section
variable {C : Addr} {H H' : Hp} {o : SA} {m : MA} {l : Addr} {s s' s2 : S3}
theorem LB.ne (L : LB C H o m l s s') : (o.p ≠ o.a ∧ o.p ≠ o.c ∧ o.p ≠ m.m ∧ o.p ≠ m.a ∧ o.p ≠ m.c ∧ o.p ≠ m.k ∧ o.p ≠ l) ∧ (o.a ≠ o.c ∧ o.a ≠ m.m ∧ o.a ≠ m.a ∧ o.a ≠ m.c ∧ o.a ≠ m.k ∧ o.a ≠ l) ∧ (o.c ≠ m.m ∧ o.c ≠ m.a ∧ o.c ≠ m.c ∧ o.c ≠ m.k ∧ o.c ≠ l) ∧
    (m.m ≠ m.a ∧ m.m ≠ m.c ∧ m.m ≠ m.k ∧ m.m ≠ l) ∧ (m.a ≠ m.c ∧ m.a ≠ m.k ∧ m.a ≠ l) ∧ (m.c ≠ m.k ∧ m.c ≠ l) ∧ m.k ≠ l := by
  have := L.ed
  simp only [List.nodup_cons, List.mem_cons, List.not_mem_nil, or_false, not_or, not_false_eq_true, List.nodup_nil, and_true] at this
  exact this
theorem LB.same (L : LB C H o m l s s') (k : Same H H') : LB C H' o m l s s' := let ⟨_, B⟩ := L.es; let ⟨_, M⟩ := L.em; ⟨⟨_, B.same k⟩, ⟨_, M.same k⟩, L.ep.same k, L.ed⟩
theorem LB.ses (L : LB C H o m l s s') (t : Touch [o.p, o.a, o.c] H H') {LC : List V} (B2 : SB C H' o s2.a s2.c s2.n LC) : LB C H' o m l s2 s' := by
  obtain ⟨_, B⟩ := L.es
  obtain ⟨_, M⟩ := L.em
  obtain ⟨⟨a1, a2, a3, a4, a5, a6, a7⟩, ⟨b1, b2, b3, b4, b5, b6⟩, ⟨c1, c2, c3, c4, c5⟩, ⟨d1, d2, d3, d4⟩, ⟨e1, e2, e3⟩, ⟨f1, f2⟩, g1⟩ := L.ne
  have q : ∀ x : Addr, o.p ≠ x → o.a ≠ x → o.c ≠ x → x ∉ [o.p, o.a, o.c] := fun x h1 h2 h3 => by
    simp only [List.mem_cons, List.not_mem_nil, or_false, not_or]
    exact ⟨h1.symm, h2.symm, h3.symm⟩
  exact ⟨⟨_, B2⟩, ⟨_, M.touch t B.noTup (q _ a3 b2 c1) (q _ a4 b3 c2) (q _ a5 b4 c3) (q _ a6 b5 c4)⟩, L.ep.touch t (q _ a7 b6 c5), L.ed⟩
theorem LB.mod (L : LB C H o m l s s') (t : Touch [m.a, m.c, m.k] H H') {LM : List V} (M2 : MB H' m s2.a s2.c s2.n LM) : LB C H' o m l s s2 := by
  obtain ⟨_, B⟩ := L.es
  obtain ⟨_, M⟩ := L.em
  obtain ⟨⟨a1, a2, a3, a4, a5, a6, a7⟩, ⟨b1, b2, b3, b4, b5, b6⟩, ⟨c1, c2, c3, c4, c5⟩, ⟨d1, d2, d3, d4⟩, ⟨e1, e2, e3⟩, ⟨f1, f2⟩, g1⟩ := L.ne
  have q : ∀ x : Addr, x ≠ m.a → x ≠ m.c → x ≠ m.k → x ∉ [m.a, m.c, m.k] := fun x h1 h2 h3 => by
    simp only [List.mem_cons, List.not_mem_nil, or_false, not_or]
    exact ⟨h1, h2, h3⟩
  exact ⟨⟨_, B.touch t M.noTup (q _ a4 a5 a6) (q _ b3 b4 b5) (q _ c2 c3 c4)⟩, ⟨_, M2⟩, L.ep.touch t (q _ e3.symm f2.symm g1.symm), L.ed⟩
theorem LB.pool (L : LB C H o m l s s') (t : Touch [l] H H') (p : PoolAt H' l) : LB C H' o m l s s' := by
  obtain ⟨_, B⟩ := L.es
  obtain ⟨_, M⟩ := L.em
  obtain ⟨⟨a1, a2, a3, a4, a5, a6, a7⟩, ⟨b1, b2, b3, b4, b5, b6⟩, ⟨c1, c2, c3, c4, c5⟩, ⟨d1, d2, d3, d4⟩, ⟨e1, e2, e3⟩, ⟨f1, f2⟩, g1⟩ := L.ne
  have q : ∀ x : Addr, x ≠ l → x ∉ [l] := fun x h1 => by simpa using h1
  exact ⟨⟨_, B.touch t L.ep.noTup (q _ a7) (q _ b6) (q _ c5)⟩, ⟨_, M.touch t L.ep.noTup (q _ d4) (q _ e3) (q _ f2) (q _ g1)⟩, p, L.ed⟩
theorem LB.tup (L : LB C H o m l s s') {b : Addr} {xs : List V} (h : H b = some (.tup xs)) : b ∉ LS o m l := fun hb => by
  obtain ⟨_, B⟩ := L.es
  obtain ⟨_, M⟩ := L.em
  simp only [LS, List.mem_cons, List.not_mem_nil, or_false] at hb
  rcases hb with z | z | z | z | z | z | z
  · exact B.noTup b (by simp [z]) xs h
  · exact B.noTup b (by simp [z]) xs h
  · exact B.noTup b (by simp [z]) xs h
  · exact M.noTup b (by simp [z]) xs h
  · exact M.noTup b (by simp [z]) xs h
  · exact M.noTup b (by simp [z]) xs h
  · exact L.ep.noTup b (by simp [z]) xs h
end
theorem touch_s {o : SA} {m : MA} {l : Addr} {H H' : Hp} (t : Touch [o.p, o.a, o.c] H H') : Touch (LS o m l) H H' := t.more fun b hb => by simp only [LS, List.mem_cons, List.not_mem_nil, or_false] at hb ⊢; rcases hb with z | z | z <;> simp [z]
theorem touch_m {o : SA} {m : MA} {l : Addr} {H H' : Hp} (t : Touch [m.a, m.c, m.k] H H') : Touch (LS o m l) H H' := t.more fun b hb => by simp only [LS, List.mem_cons, List.not_mem_nil, or_false] at hb ⊢; rcases hb with z | z | z <;> simp [z]
theorem touch_l {o : SA} {m : MA} {l : Addr} {H H' : Hp} (t : Touch [l] H H') : Touch (LS o m l) H H' := t.more fun b hb => by simp only [LS, List.mem_cons, List.not_mem_nil, or_false] at hb ⊢; simp [hb]
theorem ne_same {x : V} {A B : Prop} (h : B) : if (!decide (x = x)) = true then A else B := by
  rw [decide_eq_true (rfl : x = x)]
  exact h
/-! ### promises where nothing is being printed; == of sessions -/
structure HasS (P : Program) (w : World) (K : PySem.W.Frag) (mg : Str → Option Value) (base : Heap) (k : Nat) (x : Str) (ps : List Str) (sp : Sp) : Prop where
  ex : ∃ (f : Addr) (fd : FuncData), mg x = some (.ref f) ∧ PySem.W.keepIn K (.ref f) = true ∧ Binds K fd ps [] ∧ FnS P w K mg base k f fd ps sp
structure HasQ (P : Program) (w : World) (K : PySem.W.Frag) (mg : Str → Option Value) (base : Heap) (C : Addr) : Prop where
  ex : ∃ (f : Addr) (fd : FuncData), PySem.W.findIn K (.ref C) "__eq__" = some (some (.ref f)) ∧ PySem.W.isFn K (.ref f) = true ∧ Binds K fd ["self", "other"] [] ∧ FnOk P w K mg base CX0 3 f fd ["self", "other"] (spEq (NoEnt C))
section
variable {X : Cx} {k : Nat} {ps : List Str} {sp : Sp} {x : Str} {p pos : Pos} {e : Expr} {es : List Expr} {t : TA} {C : Addr}
theorem pe_hs (Z : HasS X.prog X.w X.K X.mg X.base k x ps sp) (st : Still X.A) (hr : Room k X.A) (ha : PA X (e :: es) t) (hg : Gl X x := by rfl) (hdb : (x == ("__debug__" : Str)) = false := by decide) (he : starEach (e :: es) X.env = (false, eval e X.env) :: starEach es X.env := by rfl)
    (hpl : (backTo pos (starEach es X.env)).any (·.1) = false := by rfl) : PE X (.Call (.Name x p) (e :: es) [] pos) (fun σ H Q => t σ H fun vs H1 => sp vs H1 Q E0) := by
  obtain ⟨f, fd, g, kp, b, G⟩ := Z.ex
  exact pe_callS' G st hr hg g kp b ha hdb he hpl
theorem op_eqS (Z : HasQ X.prog X.w X.K X.mg X.base C) (hr : Room 3 X.A) : OpR X (compareOp .Eq) (rEqG (DIns C (NoEnt C))) := by
  obtain ⟨f, fd, h1, h2, b, F⟩ := Z.ex
  exact op_eqG (rcG_ins F h1 h2 b pass0) hr
end
end K73
set_option Elab.async false
set_option linter.all false
set_option maxRecDepth 100000
set_option maxHeartbeats 4000000
/-! K73LawN: everything is undone: the walk. -/
namespace K73
open PySem PySem.Spec PyProof.Rows L2
def spEmptied (C : Addr) : Sp := fun vs H Q _ => ∃ (l : Addr) (o : SA) (m : MA) (s : S3), vs = [.ref l, .ref o.p, .ref m.m] ∧ LB C H o m l s s ∧ s.Ok 13 ∧ ∀ H' s', Touch (LS o m l) H H' → LB C H' o m l s' s' → s'.Ok 13 → Q (.bl true) H'
def usersL (cs : List Chg) : List V := (List.range cs.length).map fun j => V.int ((cs[j]?.getD (0, false, 0)).1 : Nat)
section
variable {P : Program} {w : World} {K : PySem.W.Frag} {mg : Str → Option Value} {base : Heap} {f C : Addr} {fd : FuncData}
def nsEmptied : List Str := ["_law_pool_here", "_law_session", "_law_model", "_law_number", "_law_users", "_law_change_here", "_law_who"]
def psEmptied : List Str := ["_law_pool_here", "_law_session", "_law_model"]
theorem scEmptied : FnScope nsEmptied psEmptied (defScope lEmptied) := ⟨rfl, rfl, rfl, by decide +kernel, rfl, by decide +kernel, by decide +kernel⟩
theorem ok_emptied (F : FnP K "_law_emptied" lEmptied f fd) (B : Bi mg) (T : SST K C) (ZD : Has P w K mg base 1 "_law_draw" ["_law_pool_here", "_law_bound"] spDraw) (ZA : Has P w K mg base 10 "_law_actual" ["_law_session", "_law_change_here"] (spActual C)) (ZX : Has P w K mg base 5 "_law_expected" ["_law_model", "_law_change_here"] spExpected)
    (ZS : HasS P w K mg base 5 "_law_state" ["_law_session"] (spState C)) (ZU : HasS P w K mg base 2 "_law_due" ["_law_model"] spDue) (ZL : HasO P w K mg base 3 C "__len__" ["self"] (spLen C)) (ZH : HasM P w K mg base 1 C "history" ["self"] (spHist C)) (ZE : HasM P w K mg base 2 C "entries" ["self"] (spEntries C))
    (ZQ : HasQ P w K mg base C) (ZN : HasI P w K mg base 1 "Session" C ["self"] (spSInit C)) : FnS P w K mg base 11 f fd psEmptied (spEmptied C) := by
  refine fnS F scEmptied (fun vs H Q E h => ?_) (fun cdv A outer s H vs Q E hr st h => ⟨_, PSs.nox (pss_cons (ps_for PassesOwn.never rfl (pi_range1 (by rfl) B.range (pa_cons (pe_callB call_len_seq rfl B.len PySem.boot_len (pa_cons (pe_ix ix_list (pv 2) pe_int (fun _ _ => rfl)) pa_nil)) pa_nil)) (pg_name (i := 3) scEmptied.nd rfl (Or.inl rfl))
      (pss_cons (ps_setLc (i := 4) (own := [("_law_change_here", 5)]) (g := gName 5) (tt := tYes) rfl scEmptied.nd rfl rfl (sw_true rfl rfl rfl (by decide +kernel)) (pi_list (pe_ix ix_list (pv 2) pe_int (fun _ _ => rfl))) (blkOk_by (N := nsEmptied) (sc := defScope lEmptied) (by decide +kernel))
          (fun _ _ _ _ _ => pg_name (i := 5) scEmptied.nd rfl (Or.inl rfl)) (fun _ _ _ _ _ => pts_nil) (fun _ _ _ _ _ => pe_ix (show IxR _ (rIxT K) from ix_tup) (pv 5) pe_int (fun _ _ => rfl)))
      (pss_cons (ps_set (i := 5) scEmptied.nd rfl (Or.inl rfl) (pe_tup (pa_cons pe_str (pa_cons pe_non (pa_cons (pe_ix ix_list (pv 4) (pe_h ZD (hr.mono (by decide)) (pa_cons (pv 0) (pa_cons (pe_callB call_len_seq rfl B.len PySem.boot_len (pa_cons (pv 4) pa_nil)) pa_nil))) (fun _ _ => rfl)) pa_nil)))))
      (pss_cons (ps_if (pt_cmpR op_ne (pe_callB (call_reprL st (room64 hr)) rfl B.repr (by decide +kernel) (pa_cons (pe_h ZA hr (pa_cons (pv 1) (pa_cons (pv 5) pa_nil))) pa_nil)) (pe_callB (call_reprL st (room64 hr)) rfl B.repr (by decide +kernel) (pa_cons (pe_h ZX (hr.mono (by decide)) (pa_cons (pv 2) (pa_cons (pv 5) pa_nil))) pa_nil)) (nomark _)) (pss_one (ps_ret pe_bl)) pss_nil)
      (pss_one (ps_if (pt_cmpR op_ne (pe_hs ZS st (hr.mono (by decide)) (pa_cons (pv 1) pa_nil)) (pe_hs ZU st (hr.mono (by decide)) (pa_cons (pv 2) pa_nil)) (nomark _)) (pss_one (ps_ret pe_bl)) pss_nil))))))
    (pss_cons (ps_for PassesOwn.never rfl (pi_range1 (by rfl) B.range (pa_cons pe_int pa_nil)) (pg_name (i := 6) scEmptied.nd rfl (Or.inl rfl))
      (pss_one (ps_if (pt_cmpR (op_neD (room64 hr)) (pe_h ZA hr (pa_cons (pv 1) (pa_cons (pe_tup (pa_cons pe_str (pa_cons pe_non (pa_cons (pv 6) pa_nil)))) pa_nil))) (pe_lst (pa_cons pe_str (pa_cons (pv 6) pa_nil))) (nomark _)) (pss_one (ps_ret pe_bl)) pss_nil)))
    (pss_one (ps_ret (pe_and (pe_cmpR op_eq (pe_callB (cr_len ZL st (hr.mono (by decide))) rfl B.len PySem.boot_len (pa_cons (pv 1) pa_nil)) pe_int (nomark _))
      (pe_and (pe_cmpR (op_eqD (room64 hr)) (pe_hm0 ZH T.cl (hr.mono (by decide)) (pv 1)) (pe_lst pa_nil) (nomark _))
      (pe_and (pe_cmpR (op_eq_dictA (Nat.lt_of_le_of_lt (Nat.le_add_right _ 64) hr.units)) (pe_hm0 ZE T.cl (hr.mono (by decide)) (pv 1)) pe_dnewK (nomark _))
      (pe_one (pe_cmpR (op_eqS ZQ (hr.mono (by decide))) (pv 1) (pe_hi0 ZN (hr.mono (by decide))) (nomark _)))))))))), ?_⟩)
  · obtain ⟨l, o, m, s, rfl, _⟩ := h; rfl
  · obtain ⟨l, o, m, s, rfl, L, ok, q⟩ := h
    obtain ⟨LM0, M0⟩ := L.em
    have hcl : s.c.length ≤ 13 := ok.c
    refine ⟨_, rfl, m.m, _, 1, _, rfl, rfl, SqL.of M0.m, atI_nat (j := 1) rfl, m.c, _, rfl, .inl (SqL.of M0.c), ?_⟩
    rw [M0.r.1]
    refine ⟨(s.c.length : Int), rfl, (by show -(2 ^ 62 : Int) ≤ s.c.length; omega), (by show (s.c.length : Int) < 2 ^ 62; omega), ?_⟩
    refine for_range (lo := 0) (n := s.c.length) (fun i σ H' => ∃ (z3 z4 z5 z6 : Option V) (s' : S3), σ = [some (.ref l), some (.ref o.p), some (.ref m.m), z3, z4, z5, z6] ∧ Touch (LS o m l) H H' ∧ LB C H' o m l s' s' ∧ s'.Ok 13 ∧ s'.c.length + i = s.c.length)
      ⟨_, _, _, _, s, rfl, fun b u h _ => h, L, ok, rfl⟩ (fun i σ H1 hi p => ?_) (fun σ H1 p => ?_)
    · obtain ⟨z3, z4, z5, z6, s', rfl, t1, L1, ok1, len1⟩ := p
      obtain ⟨LM1, M1⟩ := L1.em
      refine ⟨_, rfl, m.m, _, 1, _, rfl, rfl, SqL.of M1.m, atI_nat (j := 1) rfl, m.c, rfl, ⟨_, SqL.of M1.c⟩, fun D nD => ?_⟩
      refine lc_map walk_list (fun j => V.int ((s'.c[j]?.getD (0, false, 0)).1 : Nat)) (by rw [M1.r.1]; exact Nat.le_trans ok1.c (by decide)) (fun H' k => SqL.of (k _ _ M1.c)) nD (fun j x H2 H3 Q2 hj k2 y k => ?_) (fun H2 k2 hD => ?_)
      · obtain ⟨rfl, ex⟩ := y
        rw [M1.r.1] at hj
        have ec : s'.c[j]? = some s'.c[j] := List.getElem?_eq_getElem hj
        obtain ⟨b, e1, e2⟩ := M1.r.2 j s'.c[j] ec
        rw [ex] at e1
        cases e1
        rw [ec] at k
        exact ⟨rfl, _, rfl, b, _, 0, _, rfl, rfl, SqT.of (k2 _ _ e2), atI_nat (j := 0) rfl, k _ (Same.refl _)⟩
      · rw [M1.r.1] at hD
        have hD : H2 D = some (.lst (usersL s'.c)) := hD
        have ul : (usersL s'.c).length = s'.c.length := by rw [usersL, List.length_map, List.length_range]
        have L2' := L1.same k2
        have hcl1 : s'.c.length ≤ 13 := ok1.c
        have Dl : D ∉ [l] := fun z => by
          obtain ⟨_, e⟩ := L1.ep.lst
          rw [List.mem_singleton.mp z, e] at nD
          cases nD
        refine ⟨_, rfl, _, rfl, _, rfl, D, _, rfl, .inl (SqL.of hD), ?_⟩
        rw [ul]
        refine ⟨l, s'.c.length, rfl, L2'.ep, by omega, by omega, fun H3 e he t3 p3 => ?_⟩
        have L3 := L2'.pool t3 p3
        have ec : s'.c[e]? = some s'.c[e] := List.getElem?_eq_getElem he
        have hu4 := (ok1.e _ (List.getElem_mem he)).1
        have ei : (usersL s'.c)[e]? = some (.int ((s'.c[e]).1 : Nat)) := by
          rw [usersL, List.getElem?_map, List.getElem?_range he]
          show some (V.int ((s'.c[e]?.getD (0, false, 0)).1 : Nat)) = _
          rw [ec]
          rfl
        have slen := und_len (s := s') (u := s'.c[e].1) ec rfl
        generalize s'.c[e].1 = u at hu4 ei slen
        refine ⟨D, _, (e : Nat), _, rfl, rfl, SqL.of (t3 _ _ hD Dl), atI_nat ei, (by show 3 ≤ sizeLine; decide), fun t nt => ?_⟩
        have ht := upd_same (H := H3) (a := t) (o := .tup (opV u .und))
        have L4 := L3.same (same_new (o := .tup (opV u .und)) nt)
        have t4 : Touch (LS o m l) H (L2.upd H3 t (.tup (opV u .und))) := ((t1.trans (Touch.of k2)).trans (touch_l t3)).trans (Touch.of (same_new nt))
        obtain ⟨LC4, B4⟩ := L4.es
        refine ⟨_, rfl, _, rfl, o, s', LC4, t, u, .und, rfl, B4, ht, hu4, trivial, ok1, fun H5 r LC5 t5 B5 hr5 => ?_⟩
        have L5 := L4.ses (s2 := (step s' u .und).1) t5 B5
        have ht5 := t5.tup B4.noTup _ _ ht
        have rok := (step_ok3 (op := .und) ok1 hu4 trivial (by decide)).2
        have sok : (step s' u .und).1.Ok 13 := und_ok ok1
        obtain ⟨LM5, M5⟩ := L5.em
        refine ⟨r, .list (step s' u .und).2.ds, 1000, rfl, .lst (SqL.of hr5) (Rs.dp _), Rs.fine rok, by decide, Rs.deep _, ?_⟩
        refine ⟨_, rfl, _, rfl, m, s', LM5, t, u, .und, rfl, M5, ht5, hu4, trivial, ok1, fun H6 r6 LM6 t6 M6 hr6 => ?_⟩
        have L6 := L5.mod (s2 := (step s' u .und).1) t6 M6
        refine ⟨r6, .list (step s' u .und).2.ds, 1000, rfl, .lst (SqL.of hr6) (Rs.dp _), Rs.fine rok, by decide, Rs.deep _, rfl, _, rfl, ne_same ?_⟩
        have t6' := (t4.trans (touch_s t5)).trans (touch_m t6)
        generalize (step s' u .und).1 = s6 at L6 sok slen
        obtain ⟨LC6, B6⟩ := L6.es
        refine ⟨_, rfl, o, s6, LC6, rfl, B6, sok.mono (by decide), fun H7 k7 => ?_⟩
        have L7 := L6.same k7
        obtain ⟨LM7, M7⟩ := L7.em
        refine ⟨_, rfl, m, s6, LM7, rfl, M7, sok.mono (by decide), fun H8 k8 => ?_⟩
        generalize stTxt s6 = z6
        refine ⟨rfl, _, rfl, ne_same ?_⟩
        exact ⟨_, _, _, _, s6, rfl, (t6'.trans (Touch.of k7)).trans (Touch.of k8), L7.same k8, sok, by omega⟩
    · obtain ⟨z3, z4, z5, z6, s', rfl, t1, L1, ok1, len1⟩ := p
      have cnil : s'.c = [] := List.length_eq_zero_iff.mp (by omega)
      refine ⟨4, rfl, (by decide), (by decide), ?_⟩
      refine for_range (lo := 0) (n := 4) (fun i σ H' => ∃ (z3 z4 z5 z6 : Option V), σ = [some (.ref l), some (.ref o.p), some (.ref m.m), z3, z4, z5, z6] ∧ Touch (LS o m l) H H' ∧ LB C H' o m l s' s')
        ⟨_, _, _, _, rfl, t1, L1⟩ (fun i σ H2 hi p => ?_) (fun σ H2 p => ?_)
      · obtain ⟨z3, z4, z5, z6, rfl, t2, L2'⟩ := p
        have e0 : (0 + (i : Int)) = (i : Int) := Int.zero_add _
        rw [e0]
        refine ⟨_, rfl, _, rfl, (by show 3 ≤ sizeLine; decide), fun t nt => ?_⟩
        have ht := upd_same (H := H2) (a := t) (o := .tup (opV i .und))
        have L3 := L2'.same (same_new (o := .tup (opV i .und)) nt)
        have t3 : Touch (LS o m l) H (L2.upd H2 t (.tup (opV i .und))) := t2.trans (Touch.of (same_new nt))
        obtain ⟨LC3, B3⟩ := L3.es
        refine ⟨o, s', LC3, t, i, .und, rfl, B3, ht, hi, trivial, ok1, fun H4 r LC4 t4 B4 hr4 => ?_⟩
        have es := und_nil (s := s') (u := i) cnil
        rw [es] at B4 hr4
        have L4 := L3.ses t4 B4
        refine ⟨_, rfl, (by show 2 ≤ sizeLine; decide), fun r5 nr5 => ?_⟩
        have k5 := same_new (o := .lst (Rs.nth i).vs) nr5
        have sh : PyData.canLay0 (.list (Rs.nth i).ds) = true := by
          simp only [Rs.ds, PyData.canLay0, PyData.canLayAll0, Bool.and_true]
          exact (by decide +kernel : PyData.strOk ("nothing" : Str) = true)
        have shp : SeqAt.shaped (.list (Rs.nth i).ds) = true := by
          unfold SeqAt.shaped
          rw [sh, Bool.true_and]
          exact decide_eq_true (Nat.le_trans (Rs.deep _) (by decide))
        refine ⟨.list (Rs.nth i).ds, .list (Rs.nth i).ds,     .lst (SqL.of (k5 _ _ hr4)) (Rs.dp (.nth i)), .lst (SqL.of upd_same) (Rs.dp (.nth i)), shp, shp, _, rfl, ?_⟩
        rw [PySem.SeqAt.eqv_refl _ sh]
        exact iteF ⟨_, _, _, _, rfl, (t3.trans (touch_s t4)).trans (Touch.of k5), L4.same k5⟩
      · obtain ⟨z3, z4, z5, z6, rfl, t2, L2'⟩ := p
        have cn : curL s'.a s'.c = [] := by rw [cnil]; exact curL_nil _
        have hal : s'.a.length ≤ 13 := ok1.a
        have c0 : s'.c.length = 0 := by rw [cnil]; rfl
        obtain ⟨LC2, B2⟩ := L2'.es
        refine ⟨_, rfl, o.p, o.dx, _, rfl, B2.p, o, s'.a, s'.c, s'.n, LC2, rfl, B2, by omega, by omega, fun H3 k3 => ⟨_, rfl, (by omega), (by rw [cn]; decide), rfl, ?_⟩⟩
        rw [cn]
        refine ⟨_, rfl, iteTb rfl ?_⟩
        have B3 := B2.same k3
        refine ⟨_, rfl, o.p, o.dx, _, rfl, B3.p, ssf_no (by decide +kernel), o, s'.a, s'.c, s'.n, LC2, rfl, B3, fun H4 h k4 hh => ?_⟩
        have LC0 : LC2 = [] := List.length_eq_zero_iff.mp (by rw [B2.r.1]; exact c0)
        rw [LC0] at hh
        refine ⟨Nat.zero_le _, fun e5 n5 => ?_⟩
        have k5 := same_new (o := .lst []) n5
        refine rEq_nil (SqL.of (k5 _ _ hh)) (fun x hx => nomatch hx) (SqL.of upd_same) ?_
        refine ⟨_, rfl, iteTb rfl ?_⟩
        have k35 := (k3.trans k4).trans k5
        have B5 := B2.same k35
        refine ⟨_, rfl, o.p, o.dx, _, rfl, B5.p, ssf_no (by decide +kernel), o, s'.a, s'.c, s'.n, LC2, rfl, B5, by omega, by omega, fun H6 d6 k6 nd6 hd6 => ?_⟩
        have e1 : entK (ents s'.a s'.c) = [] := by unfold ents; rw [cn]; rfl
        rw [e1] at hd6
        refine fun d7 nd7 => ?_
        have k7 := same_new (o := .dK []) nd7
        refine ⟨d6, d7, [], [], rfl, rfl, k7 _ _ hd6, upd_same, rfl, fun p hp => (nomatch hp), ?_⟩
        refine ⟨_, rfl, iteTb rfl ?_⟩
        have k37 := (k35.trans k6).trans k7
        have B7 := B2.same k37
        refine ⟨_, rfl, fun p dx np ndx nex => ?_⟩
        have k8 : Same _ _ := same_upd (same_new (o := .own p) ndx) np (o := .ins C dx [])
        have B8 := B7.same k8
        refine ⟨p, dx, rfl, upd_same, fun H9 o9 e9 k9 B9 nn => ⟨rfl, ?_⟩⟩
        subst e9
        have npo : ∀ b u, L2.upd H6 d7 (.dK []) b = some u → b ≠ o9.p := fun b u h z => by rw [z] at h; rw [np] at h; cases h
        have k79 : Same (L2.upd H6 d7 (.dK [])) H9 := fun b u h => k9 b u (k8 b u h) (npo b u h)
        have B9' := B7.same k79
        refine ⟨⟨o.p, o9.p, o.dx, o9.dx, _, _, rfl, rfl, B9'.p, B9.p, o, o9, s'.a, [], s'.c, [], s'.n, 0, LC2, [], rfl, rfl, B9', B9, cn, rfl, by omega, by omega, by show 0 ≤ 1000; decide, by show 0 ≤ 1000; decide⟩, fun H10 e10 => ?_⟩
        have k10 : Same _ _ := (k37.trans k79).trans e10
        exact q H10 s' (t2.trans (Touch.of k10)) (L2'.same k10) ok1
end
end K73
set_option Elab.async false
set_option linter.all false
set_option maxRecDepth 100000
set_option maxHeartbeats 4000000
/-! K73LawO: the law. -/
namespace K73
open PySem PySem.Spec PyProof.Rows L2
abbrev lLaw : Stmt := topS 68
theorem same_touch {S : List Addr} {H0 H H' : Hp} (k : Same H0 H) (t : Touch S H H') (h : ∀ b ∈ S, H0 b = none) : Same H0 H' := fun b u e => t b u (k b u e) fun m => by
  rw [h b m] at e
  cases e
def spLaw (K : PySem.W.Frag) : Sp := fun vs H Q _ => ∃ (a : Addr) (ns : List Int), vs = [.ref a] ∧ SqL K H a (ns.map V.int) ∧ ns.length ≤ 63 ∧ ∀ H', Q (.bl true) H'
section
variable {P : Program} {w : World} {K : PySem.W.Frag} {mg : Str → Option Value} {base : Heap} {f C : Addr} {fd : FuncData}
def nsLaw : List Str := ["_law_script", "_law_index", "_law_pool_here", "_law_session", "_law_model", "_law_number", "_law_change_here"]
theorem scLaw : FnScope nsLaw ["_law_script"] (defScope lLaw) := ⟨rfl, rfl, rfl, by decide +kernel, rfl, by decide +kernel, by decide +kernel⟩
theorem ok_law (F : FnP K "law" lLaw f fd) (B : Bi mg) (ZO : Has P w K mg base 1 "_law_pool" ["_law_script", "_law_index"] (spPool K)) (ZN : HasI P w K mg base 1 "Session" C ["self"] (spSInit C)) (ZD : Has P w K mg base 1 "_law_draw" ["_law_pool_here", "_law_bound"] spDraw)
    (ZC : Has P w K mg base 4 "_law_change" ["_law_pool_here", "_law_model"] spChange) (ZA : Has P w K mg base 10 "_law_actual" ["_law_session", "_law_change_here"] (spActual C)) (ZX : Has P w K mg base 5 "_law_expected" ["_law_model", "_law_change_here"] spExpected)
    (ZM : HasS P w K mg base 11 "_law_emptied" psEmptied (spEmptied C)) (ZP : Has P w K mg base 2 "_law_path" psPath spPath) (ZS : HasS P w K mg base 5 "_law_state" ["_law_session"] (spState C)) (ZU : HasS P w K mg base 2 "_law_due" ["_law_model"] spDue) :
    FnS P w K mg base 12 f fd ["_law_script"] (spLaw K) := by
  refine fnS F scLaw (fun vs H Q E h => ?_) (fun cdv A outer s H vs Q E hr st h => ⟨_, PSs.nox (pss_cons (ps_for PassesOwn.never rfl (pi_range1 (by rfl) B.range (pa_cons (pe_callB (call_max2 rfl) rfl B.max (by decide +kernel) (pa_cons pe_int (pa_cons (pe_callB (call_min2 rfl) rfl B.min (by decide +kernel) (pa_cons pe_int (pa_cons (pe_callB call_len_seq rfl B.len PySem.boot_len (pa_cons (pv 0) pa_nil)) pa_nil))) pa_nil))) pa_nil)) (pg_name (i := 1) scLaw.nd rfl (Or.inl rfl))
      (pss_cons (ps_set (i := 2) scLaw.nd rfl (Or.inl rfl) (pe_h ZO (hr.mono (by decide)) (pa_cons (pv 0) (pa_cons (pv 1) pa_nil))))
      (pss_cons (ps_set (i := 3) scLaw.nd rfl (Or.inl rfl) (pe_hi0 ZN (hr.mono (by decide))))
      (pss_cons (ps_set (i := 4) scLaw.nd rfl (Or.inl rfl) (pe_lst (pa_cons (pe_lst pa_nil) (pa_cons (pe_lst pa_nil) (pa_cons (pe_lst (pa_cons pe_int pa_nil)) pa_nil)))))
      (pss_cons (ps_for PassesOwn.never rfl (pi_range1 (by rfl) B.range (pa_cons (pe_op op_add pe_int (pe_h ZD (hr.mono (by decide)) (pa_cons (pv 2) (pa_cons pe_int pa_nil)))) pa_nil)) (pg_name (i := 5) scLaw.nd rfl (Or.inl rfl))
        (pss_cons (ps_set (i := 6) scLaw.nd rfl (Or.inl rfl) (pe_h ZC (hr.mono (by decide)) (pa_cons (pv 2) (pa_cons (pv 4) pa_nil))))
        (pss_one (ps_if (pt_cmpR op_ne (pe_callB (call_reprL st (room64 hr)) rfl B.repr (by decide +kernel) (pa_cons (pe_h ZA (hr.mono (by decide)) (pa_cons (pv 3) (pa_cons (pv 6) pa_nil))) pa_nil)) (pe_callB (call_reprL st (room64 hr)) rfl B.repr (by decide +kernel) (pa_cons (pe_h ZX (hr.mono (by decide)) (pa_cons (pv 4) (pa_cons (pv 6) pa_nil))) pa_nil)) (nomark _)) (pss_one (ps_ret pe_bl)) pss_nil))))
      (pss_cons (ps_if (pt_not (pt_val (pe_hs ZM st hr (pa_cons (pv 2) (pa_cons (pv 3) (pa_cons (pv 4) pa_nil)))))) (pss_one (ps_ret pe_bl)) pss_nil)
      (pss_cons (ps_set (i := 6) scLaw.nd rfl (Or.inl rfl) (pe_tup (pa_cons pe_str (pa_cons (pe_h ZP (hr.mono (by decide)) (pa_cons (pv 2) (pa_cons pe_int (pa_cons pe_int pa_nil)))) (pa_cons pe_int pa_nil)))))
      (pss_cons (ps_if (pt_cmpR op_ne (pe_callB (call_reprL st (room64 hr)) rfl B.repr (by decide +kernel) (pa_cons (pe_h ZA (hr.mono (by decide)) (pa_cons (pv 3) (pa_cons (pv 6) pa_nil))) pa_nil)) (pe_callB (call_reprL st (room64 hr)) rfl B.repr (by decide +kernel) (pa_cons (pe_h ZX (hr.mono (by decide)) (pa_cons (pv 4) (pa_cons (pv 6) pa_nil))) pa_nil)) (nomark _)) (pss_one (ps_ret pe_bl)) pss_nil)
      (pss_one (ps_if (pt_cmpR op_ne (pe_hs ZS st (hr.mono (by decide)) (pa_cons (pv 3) pa_nil)) (pe_hs ZU st (hr.mono (by decide)) (pa_cons (pv 4) pa_nil)) (nomark _)) (pss_one (ps_ret pe_bl)) pss_nil))))))))))
    (pss_one (ps_ret pe_bl))), ?_⟩)
  · obtain ⟨a, ns, rfl, _⟩ := h; rfl
  · obtain ⟨a, ns, rfl, ha, hns, q⟩ := h
    have nl0 : (ns.map V.int).length = ns.length := List.length_map ..
    refine ⟨_, rfl, a, _, rfl, .inl ha, ?_⟩
    rw [nl0]
    obtain ⟨v, hv, hv3⟩ : ∃ v : Nat, (if (if (ns.length : Int) < 3 then (ns.length : Int) else 3) > 1 then (if (ns.length : Int) < 3 then (ns.length : Int) else 3) else 1) = (v : Int) ∧ v ≤ 3 := by
      by_cases h1 : (ns.length : Int) < 3
      · rw [if_pos h1]
        by_cases h2 : (ns.length : Int) > 1
        · exact ⟨ns.length, if_pos h2, by omega⟩
        · exact ⟨1, if_neg h2, by decide⟩
      · rw [if_neg h1]
        exact ⟨3, rfl, by decide⟩
    refine ⟨_, _, rfl, _, _, rfl, ?_⟩
    rw [hv]
    refine ⟨(v : Int), rfl, (by show -(2 ^ 62 : Int) ≤ v; omega), (by show (v : Int) < 2 ^ 62; omega), ?_⟩
    refine for_range (lo := 0) (n := v) (fun i σ H' => ∃ z1 z2 z3 z4 z5 z6 : Option V, σ = [some (.ref a), z1, z2, z3, z4, z5, z6] ∧ Same H H') ⟨_, _, _, _, _, _, rfl, Same.refl _⟩ (fun i σ H0 hi p => ?_) (fun σ H0 p => ?_)
    · obtain ⟨z1, z2, z3, z4, z5, z6, rfl, k0⟩ := p
      have e0 : (0 + (i : Int)) = (i : Int) := Int.zero_add _
      rw [e0]
      refine ⟨_, rfl, _, rfl, a, ns, i, rfl, k0.seq ha, by omega, by omega, fun H1 l k1 nl pl => ?_⟩
      obtain ⟨_, hl1⟩ := pl.lst
      refine fun p dx np ndx nex => ?_
      have k2a : Same H1 (L2.upd (L2.upd H1 dx (.own p)) p (.ins C dx [])) := same_upd (same_new ndx) np
      refine ⟨p, dx, rfl, upd_same, fun H2 o eo k2 B2 nn => ⟨rfl, ?_⟩⟩
      subst eo
      have k12 : Same H1 H2 := fun b u h => k2 b u (k2a b u h) (fun z => by rw [z, np] at h; cases h)
      have oap : o.a ≠ o.p := ne_of B2.a B2.p (by intro z; cases z)
      have ocp : o.c ≠ o.p := ne_of B2.c B2.p (by intro z; cases z)
      have noa : H1 o.a = none := by
        cases e : H1 o.a with
        | none => rfl
        | some x => rw [k2a _ _ e] at nn; cases nn.1
      have noc : H1 o.c = none := by
        cases e : H1 o.c with
        | none => rfl
        | some x => rw [k2a _ _ e] at nn; cases nn.2
      have lp : l ≠ o.p := ne_of_none hl1 np
      have la : l ≠ o.a := ne_of_none hl1 noa
      have lc : l ≠ o.c := ne_of_none hl1 noc
      refine ⟨Nat.zero_le _, fun ma nma => ⟨Nat.zero_le _, fun mc nmc => ⟨(by show 1 ≤ sizeLine; decide), fun mk nmk => ⟨(by show 3 ≤ sizeLine; decide), fun mm nmm => ?_⟩⟩⟩⟩
      have s3 := same_new (o := .lst []) nma
      have s4 := same_new (o := .lst []) nmc
      have s5 := same_new (o := .lst [.int 0]) nmk
      have s6 := same_new (o := .lst [.ref ma, .ref mc, .ref mk]) nmm
      have a3 := upd_same (H := H2) (a := ma) (o := .lst [])
      have c4 := upd_same (H := L2.upd H2 ma (.lst [])) (a := mc) (o := .lst [])
      have q5 := upd_same (H := L2.upd (L2.upd H2 ma (.lst [])) mc (.lst [])) (a := mk) (o := .lst [.int 0])
      have m6 := upd_same (H := L2.upd (L2.upd (L2.upd H2 ma (.lst [])) mc (.lst [])) mk (.lst [.int 0])) (a := mm) (o := .lst [.ref ma, .ref mc, .ref mk])
      have kx := k0.trans k1
      have fr : ∀ {Hx : Hp} {b : Addr}, Same H Hx → Hx b = none → H b = none := fun k n => by
        cases e : H _ with
        | none => rfl
        | some x => rw [k _ _ e] at n; cases n
      have k02 := kx.trans k12
      have fresh : ∀ b ∈ LS o ⟨mm, ma, mc, mk⟩ l, H b = none := fun b hb => by
        simp only [LS, List.mem_cons, List.not_mem_nil, or_false] at hb
        rcases hb with z | z | z | z | z | z | z <;> rw [z]
        · exact fr kx np
        · exact fr kx noa
        · exact fr kx noc
        · exact fr k02 nma
        · exact fr (k02.trans s3) nmc
        · exact fr ((k02.trans s3).trans s4) nmk
        · exact fr k0 nl
      have hl2 := k12 _ _ hl1
      have aa : mc ≠ ma := (ne_of_none a3 nmc).symm
      have e1 := s4 _ _ a3
      have e2 := s5 _ _ e1
      have e3 := s5 _ _ c4
      have L : LB C (L2.upd (L2.upd (L2.upd (L2.upd H2 ma (.lst [])) mc (.lst [])) mk (.lst [.int 0])) mm (.lst [.ref ma, .ref mc, .ref mk])) o ⟨mm, ma, mc, mk⟩ l ⟨[], [], 0⟩ ⟨[], [], 0⟩ := by
        have k26 := ((s3.trans s4).trans s5).trans s6
        have P3 := s3 _ _ B2.p
        have A3 := s3 _ _ B2.a
        have C3 := s3 _ _ B2.c
        have L3 := s3 _ _ hl2
        have P4 := s4 _ _ P3
        have A4 := s4 _ _ A3
        have C4 := s4 _ _ C3
        have L4 := s4 _ _ L3
        have P5 := s5 _ _ P4
        have A5 := s5 _ _ A4
        have C5 := s5 _ _ C4
        have L5 := s5 _ _ L4
        refine ⟨⟨_, B2.same k26⟩, ⟨[], ⟨m6, s6 _ _ e2, s6 _ _ e3, s6 _ _ q5, ⟨rfl, fun i e h => by cases h⟩, ?_⟩⟩, (pl.same k12).same k26, ?_⟩
        · simp only [List.nodup_cons, List.mem_cons, List.not_mem_nil, or_false, not_or, not_false_eq_true, List.nodup_nil, and_true]
          exact ⟨⟨(ne_of_none e2 nmm).symm, (ne_of_none e3 nmm).symm, (ne_of_none q5 nmm).symm⟩, ⟨aa.symm, ne_of_none e1 nmk⟩, ne_of_none c4 nmk⟩
        · simp only [List.nodup_cons, List.mem_cons, List.not_mem_nil, or_false, not_or, not_false_eq_true, List.nodup_nil, and_true]
          exact ⟨⟨oap.symm, ocp.symm, ne_of_none P5 nmm, ne_of_none B2.p nma, ne_of_none P3 nmc, ne_of_none P4 nmk, lp.symm⟩, ⟨B2.ne, ne_of_none A5 nmm, ne_of_none B2.a nma, ne_of_none A3 nmc, ne_of_none A4 nmk, la.symm⟩, ⟨ne_of_none C5 nmm, ne_of_none B2.c nma, ne_of_none C3 nmc, ne_of_none C4 nmk, lc.symm⟩,
            ⟨(ne_of_none e2 nmm).symm, (ne_of_none e3 nmm).symm, (ne_of_none q5 nmm).symm, (ne_of_none L5 nmm).symm⟩, ⟨aa.symm, ne_of_none e1 nmk, (ne_of_none hl2 nma).symm⟩, ⟨ne_of_none c4 nmk, (ne_of_none L3 nmc).symm⟩, (ne_of_none L4 nmk).symm⟩
      have k06 : Same H (L2.upd (L2.upd (L2.upd (L2.upd H2 ma (.lst [])) mc (.lst [])) mk (.lst [.int 0])) mm (.lst [.ref ma, .ref mc, .ref mk])) := (((k02.trans s3).trans s4).trans s5).trans s6
      generalize L2.upd (L2.upd (L2.upd (L2.upd H2 ma (.lst [])) mc (.lst [])) mk (.lst [.int 0])) mm (.lst [.ref ma, .ref mc, .ref mk]) = H6 at L k06
      generalize hm : (⟨mm, ma, mc, mk⟩ : MA) = m at L fresh
      have emm : mm = m.m := by rw [← hm]
      rw [emm]
      refine ⟨_, rfl, l, 12, rfl, L.ep, by decide, by decide, fun H7 d hd t7 p7 => ⟨_, _, rfl, rfl, ?_⟩⟩
      have L7 := L.pool t7 p7
      have k07 := same_touch k06 (touch_l t7) fresh
      refine ⟨((1 + d : Nat) : Int), rfl, (by show -(2 ^ 62 : Int) ≤ _; omega), (by show _ < (2 ^ 62 : Int); omega), ?_⟩
      refine for_range (lo := 0) (n := 1 + d) (fun j σ H' => ∃ (z5 z6 : Option V) (s : S3), σ = [some (.ref a), some (.int (i : Nat)), some (.ref l), some (.ref o.p), some (.ref m.m), z5, z6] ∧ Same H H' ∧ LB C H' o m l s s ∧ s.Ok j)
        ⟨_, _, ⟨[], [], 0⟩, rfl, k07, L7, ⟨Nat.le_refl _, Nat.le_refl _, Nat.le_refl _, fun w h => (nomatch h), fun c h => (nomatch h)⟩⟩ (fun j σ H8 hj p => ?_) (fun σ H8 p => ?_)
      · obtain ⟨z5, z6, s, rfl, k8, L8, ok8⟩ := p
        obtain ⟨LM8, M8⟩ := L8.em
        have hn := L8.ne
        refine ⟨_, rfl, _, rfl, l, m, s, LM8, rfl, L8.ep, M8, ?_, ok8.mono (by omega), fun H9 t u op t9 p9 ht hu hop => ?_⟩
        · simp only [List.mem_cons, List.not_mem_nil, or_false, not_or]
          exact ⟨hn.2.2.2.1.2.2.2.symm, hn.2.2.2.2.1.2.2.symm, hn.2.2.2.2.2.1.2.symm, hn.2.2.2.2.2.2.symm⟩
        have L9 := L8.pool t9 p9
        have k9 := same_touch k8 (touch_l t9) fresh
        have ok9 : s.Ok 13 := ok8.mono (by omega)
        obtain ⟨LC9, B9⟩ := L9.es
        refine ⟨_, rfl, _, rfl, o, s, LC9, t, u, op, rfl, B9, ht, hu, hop, ok9, fun H10 r LC10 t10 B10 hr10 => ?_⟩
        have L10 := L9.ses (s2 := (step s u op).1) t10 B10
        have ht10 := t10.tup B9.noTup _ _ ht
        have k10 := same_touch k9 (touch_s t10) fresh
        obtain ⟨sok, _⟩ := step_ok3 ok8 hu hop (by omega)
        have rok := (step_ok3 ok9 hu hop (by decide)).2
        obtain ⟨LM10, M10⟩ := L10.em
        refine ⟨r, .list (step s u op).2.ds, 1000, rfl, .lst (SqL.of hr10) (Rs.dp _), Rs.fine rok, by decide, Rs.deep _, ?_⟩
        refine ⟨_, rfl, _, rfl, m, s, LM10, t, u, op, rfl, M10, ht10, hu, hop, ok9, fun H11 r11 LM11 t11 M11 hr11 => ?_⟩
        have L11 := L10.mod (s2 := (step s u op).1) t11 M11
        refine ⟨r11, .list (step s u op).2.ds, 1000, rfl, .lst (SqL.of hr11) (Rs.dp _), Rs.fine rok, by decide, Rs.deep _, rfl, _, rfl, ne_same ?_⟩
        exact ⟨_, _, (step s u op).1, rfl, same_touch k10 (touch_m t11) fresh, L11, sok⟩
      · obtain ⟨z5, z6, s, rfl, k8, L8, ok8⟩ := p
        refine ⟨_, rfl, _, rfl, _, rfl, l, o, m, s, rfl, L8, ok8.mono (by omega), fun H9 s9 t9 L9 ok9 => ⟨true, rfl, iteF ?_⟩⟩
        have k9 := same_touch k8 t9 fresh
        refine ⟨_, rfl, l, rfl, L9.ep, fun H10 w t10 p10 hw hwl => ⟨(by show 3 ≤ sizeLine; decide), fun t nt => ?_⟩⟩
        have L10 := (L9.pool t10 p10).same (same_new (o := .tup (opV 1 (.add w))) nt)
        have k10 := (same_touch k9 (touch_l t10) fresh).trans (same_new (o := .tup (opV 1 (.add w))) nt)
        have ht := upd_same (H := H10) (a := t) (o := .tup (opV 1 (.add w)))
        obtain ⟨LC10, B10⟩ := L10.es
        have hop : (Op.add w).ok := ⟨hw, by omega⟩
        refine ⟨_, rfl, _, rfl, o, s9, LC10, t, 1, .add w, rfl, B10, ht, by decide, hop, ok9, fun H11 r LC11 t11 B11 hr11 => ?_⟩
        have L11 := L10.ses (s2 := (step s9 1 (.add w)).1) t11 B11
        have ht11 := t11.tup B10.noTup _ _ ht
        have k11 := same_touch k10 (touch_s t11) fresh
        obtain ⟨sok, rok⟩ := step_ok3 (u := 1) (op := .add w) ok9 (by decide) hop (by decide)
        obtain ⟨LM11, M11⟩ := L11.em
        refine ⟨r, .list (step s9 1 (.add w)).2.ds, 1000, rfl, .lst (SqL.of hr11) (Rs.dp _), Rs.fine rok, by decide, Rs.deep _, ?_⟩
        refine ⟨_, rfl, _, rfl, m, s9, LM11, t, 1, .add w, rfl, M11, ht11, by decide, hop, ok9, fun H12 r12 LM12 t12 M12 hr12 => ?_⟩
        have L12 := L11.mod (s2 := (step s9 1 (.add w)).1) t12 M12
        have k12 := same_touch k11 (touch_m t12) fresh
        refine ⟨r12, .list (step s9 1 (.add w)).2.ds, 1000, rfl, .lst (SqL.of hr12) (Rs.dp _), Rs.fine rok, by decide, Rs.deep _, rfl, _, rfl, ne_same ?_⟩
        generalize (step s9 1 (.add w)).1 = s12 at L12 sok
        obtain ⟨LC12, B12⟩ := L12.es
        refine ⟨_, rfl, o, s12, LC12, rfl, B12, sok.mono (by decide), fun H13 k13 => ?_⟩
        obtain ⟨LM13, M13⟩ := (L12.same k13).em
        refine ⟨_, rfl, m, s12, LM13, rfl, M13, sok.mono (by decide), fun H14 k14 => ?_⟩
        generalize stTxt s12 = z12
        refine ⟨rfl, _, rfl, ne_same ?_⟩
        exact ⟨_, _, _, _, _, _, rfl, (k12.trans k13).trans k14⟩
    · obtain ⟨z1, z2, z3, z4, z5, z6, rfl, k0⟩ := p
      exact q H0
end
end K73
set_option Elab.async false
set_option linter.all false
set_option maxRecDepth 100000
set_option maxHeartbeats 4000000
/-! K73Fac: what the head must tell, and the law's promise from it. -/
namespace K73
open PySem PySem.Spec PyProof.Rows L2
def dF (x : Str) (st : Stmt) : He.DefD := ⟨(x, none), x, x, defArgs st, defBody st, defScope st, [], []⟩
def dM (c m q : Str) (st : Stmt) : He.DefD := ⟨(c, some m), m, q, defArgs st, defBody st, defScope st, [], []⟩
def dK (c m q : Str) (st : Stmt) : He.DefD := ⟨(c, some m), m, q, defArgs st, defBody st, defScope st, [], [("user", .int 0)]⟩
def fnL : List He.DefD := [dF "is_integer" sIsInt, dF "is_path" sIsPath, dF "require_path" sReqPath, dF "reduce_all" sReduce, dF "reduced_generator" sRedGen, dF "required_lines" sReq, dF "derive_all" sDerive, dF "_law_pool" lPool, dF "_law_draw" lDraw, dF "_law_path" lPath, dF "_law_back" lBack, dF "_law_reversed" lRev, dF "_law_short" lShort, dF "_law_initial" lInitial, dF "_law_conflict" lConflict, dF "_law_merged" lMerged, dF "_law_folded" lFolded, dF "_law_end" lEnd, dF "_law_product" lProduct, dF "_law_is_integer" lIsInt, dF "_law_current" lCurrent, dF "_law_listed" lListed, dF "_law_undone" lUndone, dF "_law_expected" lExpected, dF "_law_actual" lActual, dF "_law_state" lState, dF "_law_due" lDue, dF "_law_change" lChange, dF "_law_emptied" lEmptied, dF "law" lLaw, dM "LabelledFolding" "__init__" "LabelledFolding.__init__" (sLF 0), dM "LabelledFolding" "generator_line" "LabelledFolding.generator_line" (sLF 1), dM "LabelledFolding" "inverse_line" "LabelledFolding.inverse_line" (sLF 2), dM "LabelledFolding" "product_line" "LabelledFolding.product_line" (sLF 3), dM "LabelledFolding" "add_generator" "LabelledFolding.add_generator" (sLF 4), dM "LabelledFolding" "walk" "LabelledFolding.walk" (sLF 5), dM "LabelledFolding" "add_edge" "LabelledFolding.add_edge" (sLF 6), dM "LabelledFolding" "current" "LabelledFolding.current" (sLF 7), dM "LabelledFolding" "merge_pending" "LabelledFolding.merge_pending" (sLF 8), dM "LabelledFolding" "merge" "LabelledFolding.merge" (sLF 9), dM "LabelledFolding" "derivation_of" "LabelledFolding.derivation_of" (sLF 10), dM "Session" "__init__" "Session.__init__" (sSes 0), dM "Session" "is_current" "Session.is_current" (sSes 1), dM "Session" "entries" "Session.entries" (sSes 2), dM "Session" "paths" "Session.paths" (sSes 3), dM "Session" "require_user" "Session.require_user" (sSes 4), dM "Session" "record" "Session.record" (sSes 5), dK "Session" "add_path" "Session.add_path" (sSes 6), dK "Session" "remove_entry" "Session.remove_entry" (sSes 7), dK "Session" "undo" "Session.undo" (sSes 8), dM "Session" "history" "Session.history" (sSes 12), dM "Session" "__eq__" "Session.__eq__" (sSes 14), dM "Session" "__len__" "Session.__len__" (sSes 15), dM "Session" "__repr__" "Session.__repr__" (sSes 16), dM "UnknownEntry" "__init__" "UnknownEntry.__init__" (inClass (topS 10) 0), dM "NothingToUndo" "__init__" "NothingToUndo.__init__" (inClass (topS 13) 0)]
def faL : List He.Fa := [.glo "is_integer", .glo "is_path", .glo "require_path", .glo "reduce_all", .glo "reduced_generator", .glo "required_lines", .glo "derive_all", .glo "_law_pool", .glo "_law_draw", .glo "_law_path", .glo "_law_back", .glo "_law_reversed", .glo "_law_short", .glo "_law_initial", .glo "_law_conflict", .glo "_law_merged", .glo "_law_folded", .glo "_law_end", .glo "_law_product", .glo "_law_is_integer", .glo "_law_current", .glo "_law_listed", .glo "_law_undone", .glo "_law_expected", .glo "_law_actual", .glo "_law_state", .glo "_law_due", .glo "_law_change", .glo "_law_emptied", .glo "law", .glo "Session", .glo "LabelledFolding", .glo "UnknownEntry", .glo "InvalidUser", .glo "NothingToUndo", .glo "LimitExceeded", .free "len", .free "range", .free "enumerate", .free "isinstance", .free "int", .free "str", .free "bool", .free "list", .free "tuple", .free "sorted", .free "all", .free "repr", .free "max", .free "min", .free "IndexError", .free "RuntimeError", .str "STEPS" "aAbBcCdD", .int "MAX_STEPS" 400, .int "MAX_GENERATORS" 16, .int "MAX_GENERATOR_STEPS" 60, .int "USER_COUNT" 4, .int "MAX_CHANGES" 200, .cls "LabelledFolding", .cls "Session", .noat "LabelledFolding" "lines", .noat "LabelledFolding" "targets_of", .noat "LabelledFolding" "merged", .noat "LabelledFolding" "next_node", .noat "LabelledFolding" "pending", .noat "Session" "added", .noat "Session" "changes", .noat "Session" "change_count", .noat "UnknownEntry" "value", .noat "NothingToUndo" "user", .meth "LabelledFolding" "generator_line", .meth "LabelledFolding" "inverse_line", .meth "LabelledFolding" "product_line", .meth "LabelledFolding" "add_generator", .meth "LabelledFolding" "walk", .meth "LabelledFolding" "add_edge", .meth "LabelledFolding" "current", .meth "LabelledFolding" "merge_pending", .meth "LabelledFolding" "merge", .meth "LabelledFolding" "derivation_of", .meth "Session" "is_current", .meth "Session" "entries", .meth "Session" "paths", .meth "Session" "require_user", .meth "Session" "record", .meth "Session" "add_path", .meth "Session" "remove_entry", .meth "Session" "undo", .meth "Session" "history", .meth "Session" "__eq__", .meth "Session" "__len__", .meth "Session" "__repr__", .meth "UnknownEntry" "__init__", .meth "NothingToUndo" "__init__", .mkr "Session", .mkr "LabelledFolding", .exm "UnknownEntry" "UnknownEntry" true, .exm "NothingToUndo" "UnknownEntry" false, .exm "NothingToUndo" "InvalidUser" false, .exm "NothingToUndo" "NothingToUndo" true]
def ownB (K : PySem.W.Frag) (C : Addr) (n : String) (bm : List Value) : Bool := PySem.W.excInitIn K C bm n && (PySem.W.excOver K C bm && (PySem.W.hasDictIn K C && (decide (PySem.W.findIn K (.ref C) "__setattr__" = some (some (.builtin "object.__setattr__"))) && (decide (PySem.W.subIn K (.ref C) (.type "BaseException") = some true) && (decide (PySem.W.typeIn K (.ref C) = some (.type "type")) && PySem.W.keepIn K (.ref C))))))
theorem ownB_ok {K : PySem.W.Frag} {C : Addr} {n : String} {bm : List Value} (h : ownB K C n bm = true) : OwnX K C n bm := by
  obtain ⟨h1, h⟩ := Bool.and_eq_true_iff.mp h
  obtain ⟨h2, h⟩ := Bool.and_eq_true_iff.mp h
  obtain ⟨h3, h⟩ := Bool.and_eq_true_iff.mp h
  obtain ⟨h4, h⟩ := Bool.and_eq_true_iff.mp h
  obtain ⟨h5, h⟩ := Bool.and_eq_true_iff.mp h
  obtain ⟨h6, h7⟩ := Bool.and_eq_true_iff.mp h
  exact ⟨h1, h2, h3, of_decide_eq_true h4, of_decide_eq_true h5, of_decide_eq_true h6, h7⟩
def isiB (K : PySem.W.Frag) (C : Addr) : Bool := decide (PySem.W.findIn K (.ref C) "__class__" = some (some (.builtin "object.__class__"))) && (decide (PySem.W.specialIn K (.builtin "object.__class__") "__get__" = some (some (.builtin "getset_descriptor.__get__"))) &&
  (decide (PySem.W.takesIn K (.builtin "object.__class__") = some true) && decide (PySem.W.mroIn K C (.type "object") = some true)))
theorem isiB_ok {K : PySem.W.Frag} {C : Addr} (h : isiB K C = true) : IsiC K C := by
  obtain ⟨h1, h⟩ := Bool.and_eq_true_iff.mp h
  obtain ⟨h2, h⟩ := Bool.and_eq_true_iff.mp h
  obtain ⟨h3, h4⟩ := Bool.and_eq_true_iff.mp h
  exact ⟨of_decide_eq_true h1, of_decide_eq_true h2, of_decide_eq_true h3, of_decide_eq_true h4⟩
def exB (K : PySem.W.Frag) : Bool := ownB K (He.ga K "UnknownEntry") "IndexError.__new__" ixMro && (ownB K (He.ga K "NothingToUndo") "RuntimeError.__new__" rtMro && (isiB K (He.ga K "Session") && (L2.xfB K (He.ga K "UnknownEntry") && L2.xfB K (He.ga K "NothingToUndo"))))
theorem kwBinds {K : PySem.W.Frag} {x q : Str} {pa : Arguments} {bo : List Stmt} {sc : Scope} {kws : List (Str × V)} {f : Addr} {fd : FuncData} {ps : List Str} {n : Nat} (F : FunD K x q pa bo sc [] kws f fd)
    (h : ∀ (kV doc pm : Value) (an : Option Addr) (cdv ct : Value) (us : List Value) (v : Value), us.length = n → bindArgs (PySem.W.fnOf x q pa bo sc .none kV doc pm an cdv ct) ⟨us, [("user", v)]⟩ = pure (ps.zip (us ++ [v]))) (s : Shared) (us : List Value) (v : Value) (hl : us.length = n) : BindsTo s fd ⟨us, [("user", v)]⟩ (ps.zip (us ++ [v])) := by
  obtain ⟨oc, od, dV, kV, doc, pm, an, cdv, ct, osl, rfl, lk, hcd, hD, hK⟩ := F.ex
  rcases hD with ⟨_, rfl⟩ | ⟨e, _⟩
  · exact .of_eq (h kV doc pm an cdv ct us v hl)
  · exact absurd rfl e
theorem facts {P : Program} {w : World} {K : PySem.W.Frag} {h : Heap} {mg : Str → Option Value} {f : Addr} (X : K.In h) (G : h.Ns mainGlobals mg) (hfa : mg ("law" : Str) = some (.ref f)) (c : He.SaysD faL fnL K) (ex : exB K = true) :
    ∃ fd : FuncData, (∀ (s : Shared) (v : Value), BindsTo s fd ⟨[v], []⟩ [("_law_script", v)]) ∧ ∀ base : Heap, K.In base → base.Ns mainGlobals mg → FnS P w K mg base 12 f fd ["_law_script"] (spLaw K) := by
  obtain ⟨d_is_integer, F_is_integer⟩ := c.def_ 0 (d := dF "is_integer" sIsInt) rfl
  obtain ⟨d_is_path, F_is_path⟩ := c.def_ 1 (d := dF "is_path" sIsPath) rfl
  obtain ⟨d_require_path, F_require_path⟩ := c.def_ 2 (d := dF "require_path" sReqPath) rfl
  obtain ⟨d_reduce_all, F_reduce_all⟩ := c.def_ 3 (d := dF "reduce_all" sReduce) rfl
  obtain ⟨d_reduced_generator, F_reduced_generator⟩ := c.def_ 4 (d := dF "reduced_generator" sRedGen) rfl
  obtain ⟨d_required_lines, F_required_lines⟩ := c.def_ 5 (d := dF "required_lines" sReq) rfl
  obtain ⟨d_derive_all, F_derive_all⟩ := c.def_ 6 (d := dF "derive_all" sDerive) rfl
  obtain ⟨d__law_pool, F__law_pool⟩ := c.def_ 7 (d := dF "_law_pool" lPool) rfl
  obtain ⟨d__law_draw, F__law_draw⟩ := c.def_ 8 (d := dF "_law_draw" lDraw) rfl
  obtain ⟨d__law_path, F__law_path⟩ := c.def_ 9 (d := dF "_law_path" lPath) rfl
  obtain ⟨d__law_back, F__law_back⟩ := c.def_ 10 (d := dF "_law_back" lBack) rfl
  obtain ⟨d__law_reversed, F__law_reversed⟩ := c.def_ 11 (d := dF "_law_reversed" lRev) rfl
  obtain ⟨d__law_short, F__law_short⟩ := c.def_ 12 (d := dF "_law_short" lShort) rfl
  obtain ⟨d__law_initial, F__law_initial⟩ := c.def_ 13 (d := dF "_law_initial" lInitial) rfl
  obtain ⟨d__law_conflict, F__law_conflict⟩ := c.def_ 14 (d := dF "_law_conflict" lConflict) rfl
  obtain ⟨d__law_merged, F__law_merged⟩ := c.def_ 15 (d := dF "_law_merged" lMerged) rfl
  obtain ⟨d__law_folded, F__law_folded⟩ := c.def_ 16 (d := dF "_law_folded" lFolded) rfl
  obtain ⟨d__law_end, F__law_end⟩ := c.def_ 17 (d := dF "_law_end" lEnd) rfl
  obtain ⟨d__law_product, F__law_product⟩ := c.def_ 18 (d := dF "_law_product" lProduct) rfl
  obtain ⟨d__law_is_integer, F__law_is_integer⟩ := c.def_ 19 (d := dF "_law_is_integer" lIsInt) rfl
  obtain ⟨d__law_current, F__law_current⟩ := c.def_ 20 (d := dF "_law_current" lCurrent) rfl
  obtain ⟨d__law_listed, F__law_listed⟩ := c.def_ 21 (d := dF "_law_listed" lListed) rfl
  obtain ⟨d__law_undone, F__law_undone⟩ := c.def_ 22 (d := dF "_law_undone" lUndone) rfl
  obtain ⟨d__law_expected, F__law_expected⟩ := c.def_ 23 (d := dF "_law_expected" lExpected) rfl
  obtain ⟨d__law_actual, F__law_actual⟩ := c.def_ 24 (d := dF "_law_actual" lActual) rfl
  obtain ⟨d__law_state, F__law_state⟩ := c.def_ 25 (d := dF "_law_state" lState) rfl
  obtain ⟨d__law_due, F__law_due⟩ := c.def_ 26 (d := dF "_law_due" lDue) rfl
  obtain ⟨d__law_change, F__law_change⟩ := c.def_ 27 (d := dF "_law_change" lChange) rfl
  obtain ⟨d__law_emptied, F__law_emptied⟩ := c.def_ 28 (d := dF "_law_emptied" lEmptied) rfl
  obtain ⟨d_law, F_law⟩ := c.def_ 29 (d := dF "law" lLaw) rfl
  obtain ⟨d_LabelledFolding_init, F_LabelledFolding_init⟩ := c.def_ 30 (d := dM "LabelledFolding" "__init__" "LabelledFolding.__init__" (sLF 0)) rfl
  obtain ⟨d_LabelledFolding_generator_line, F_LabelledFolding_generator_line⟩ := c.def_ 31 (d := dM "LabelledFolding" "generator_line" "LabelledFolding.generator_line" (sLF 1)) rfl
  obtain ⟨d_LabelledFolding_inverse_line, F_LabelledFolding_inverse_line⟩ := c.def_ 32 (d := dM "LabelledFolding" "inverse_line" "LabelledFolding.inverse_line" (sLF 2)) rfl
  obtain ⟨d_LabelledFolding_product_line, F_LabelledFolding_product_line⟩ := c.def_ 33 (d := dM "LabelledFolding" "product_line" "LabelledFolding.product_line" (sLF 3)) rfl
  obtain ⟨d_LabelledFolding_add_generator, F_LabelledFolding_add_generator⟩ := c.def_ 34 (d := dM "LabelledFolding" "add_generator" "LabelledFolding.add_generator" (sLF 4)) rfl
  obtain ⟨d_LabelledFolding_walk, F_LabelledFolding_walk⟩ := c.def_ 35 (d := dM "LabelledFolding" "walk" "LabelledFolding.walk" (sLF 5)) rfl
  obtain ⟨d_LabelledFolding_add_edge, F_LabelledFolding_add_edge⟩ := c.def_ 36 (d := dM "LabelledFolding" "add_edge" "LabelledFolding.add_edge" (sLF 6)) rfl
  obtain ⟨d_LabelledFolding_current, F_LabelledFolding_current⟩ := c.def_ 37 (d := dM "LabelledFolding" "current" "LabelledFolding.current" (sLF 7)) rfl
  obtain ⟨d_LabelledFolding_merge_pending, F_LabelledFolding_merge_pending⟩ := c.def_ 38 (d := dM "LabelledFolding" "merge_pending" "LabelledFolding.merge_pending" (sLF 8)) rfl
  obtain ⟨d_LabelledFolding_merge, F_LabelledFolding_merge⟩ := c.def_ 39 (d := dM "LabelledFolding" "merge" "LabelledFolding.merge" (sLF 9)) rfl
  obtain ⟨d_LabelledFolding_derivation_of, F_LabelledFolding_derivation_of⟩ := c.def_ 40 (d := dM "LabelledFolding" "derivation_of" "LabelledFolding.derivation_of" (sLF 10)) rfl
  obtain ⟨d_Session_init, F_Session_init⟩ := c.def_ 41 (d := dM "Session" "__init__" "Session.__init__" (sSes 0)) rfl
  obtain ⟨d_Session_is_current, F_Session_is_current⟩ := c.def_ 42 (d := dM "Session" "is_current" "Session.is_current" (sSes 1)) rfl
  obtain ⟨d_Session_entries, F_Session_entries⟩ := c.def_ 43 (d := dM "Session" "entries" "Session.entries" (sSes 2)) rfl
  obtain ⟨d_Session_paths, F_Session_paths⟩ := c.def_ 44 (d := dM "Session" "paths" "Session.paths" (sSes 3)) rfl
  obtain ⟨d_Session_require_user, F_Session_require_user⟩ := c.def_ 45 (d := dM "Session" "require_user" "Session.require_user" (sSes 4)) rfl
  obtain ⟨d_Session_record, F_Session_record⟩ := c.def_ 46 (d := dM "Session" "record" "Session.record" (sSes 5)) rfl
  obtain ⟨d_Session_add_path, F_Session_add_path⟩ := c.def_ 47 (d := dK "Session" "add_path" "Session.add_path" (sSes 6)) rfl
  obtain ⟨d_Session_remove_entry, F_Session_remove_entry⟩ := c.def_ 48 (d := dK "Session" "remove_entry" "Session.remove_entry" (sSes 7)) rfl
  obtain ⟨d_Session_undo, F_Session_undo⟩ := c.def_ 49 (d := dK "Session" "undo" "Session.undo" (sSes 8)) rfl
  obtain ⟨d_Session_history, F_Session_history⟩ := c.def_ 50 (d := dM "Session" "history" "Session.history" (sSes 12)) rfl
  obtain ⟨d_Session_eq, F_Session_eq⟩ := c.def_ 51 (d := dM "Session" "__eq__" "Session.__eq__" (sSes 14)) rfl
  obtain ⟨d_Session_len, F_Session_len⟩ := c.def_ 52 (d := dM "Session" "__len__" "Session.__len__" (sSes 15)) rfl
  obtain ⟨d_Session_repr, F_Session_repr⟩ := c.def_ 53 (d := dM "Session" "__repr__" "Session.__repr__" (sSes 16)) rfl
  obtain ⟨d_UnknownEntry_init, F_UnknownEntry_init⟩ := c.def_ 54 (d := dM "UnknownEntry" "__init__" "UnknownEntry.__init__" (inClass (topS 10) 0)) rfl
  obtain ⟨d_NothingToUndo_init, F_NothingToUndo_init⟩ := c.def_ 55 (d := dM "NothingToUndo" "__init__" "NothingToUndo.__init__" (inClass (topS 13) 0)) rfl
  have g_is_integer := He.glo_ok X G (x := "is_integer") (c.fact 0 rfl)
  have g_is_path := He.glo_ok X G (x := "is_path") (c.fact 1 rfl)
  have g_require_path := He.glo_ok X G (x := "require_path") (c.fact 2 rfl)
  have g_reduce_all := He.glo_ok X G (x := "reduce_all") (c.fact 3 rfl)
  have g_reduced_generator := He.glo_ok X G (x := "reduced_generator") (c.fact 4 rfl)
  have g_required_lines := He.glo_ok X G (x := "required_lines") (c.fact 5 rfl)
  have g_derive_all := He.glo_ok X G (x := "derive_all") (c.fact 6 rfl)
  have g__law_pool := He.glo_ok X G (x := "_law_pool") (c.fact 7 rfl)
  have g__law_draw := He.glo_ok X G (x := "_law_draw") (c.fact 8 rfl)
  have g__law_path := He.glo_ok X G (x := "_law_path") (c.fact 9 rfl)
  have g__law_back := He.glo_ok X G (x := "_law_back") (c.fact 10 rfl)
  have g__law_reversed := He.glo_ok X G (x := "_law_reversed") (c.fact 11 rfl)
  have g__law_short := He.glo_ok X G (x := "_law_short") (c.fact 12 rfl)
  have g__law_initial := He.glo_ok X G (x := "_law_initial") (c.fact 13 rfl)
  have g__law_conflict := He.glo_ok X G (x := "_law_conflict") (c.fact 14 rfl)
  have g__law_merged := He.glo_ok X G (x := "_law_merged") (c.fact 15 rfl)
  have g__law_folded := He.glo_ok X G (x := "_law_folded") (c.fact 16 rfl)
  have g__law_end := He.glo_ok X G (x := "_law_end") (c.fact 17 rfl)
  have g__law_product := He.glo_ok X G (x := "_law_product") (c.fact 18 rfl)
  have g__law_is_integer := He.glo_ok X G (x := "_law_is_integer") (c.fact 19 rfl)
  have g__law_current := He.glo_ok X G (x := "_law_current") (c.fact 20 rfl)
  have g__law_listed := He.glo_ok X G (x := "_law_listed") (c.fact 21 rfl)
  have g__law_undone := He.glo_ok X G (x := "_law_undone") (c.fact 22 rfl)
  have g__law_expected := He.glo_ok X G (x := "_law_expected") (c.fact 23 rfl)
  have g__law_actual := He.glo_ok X G (x := "_law_actual") (c.fact 24 rfl)
  have g__law_state := He.glo_ok X G (x := "_law_state") (c.fact 25 rfl)
  have g__law_due := He.glo_ok X G (x := "_law_due") (c.fact 26 rfl)
  have g__law_change := He.glo_ok X G (x := "_law_change") (c.fact 27 rfl)
  have g__law_emptied := He.glo_ok X G (x := "_law_emptied") (c.fact 28 rfl)
  have g_law := He.glo_ok X G (x := "law") (c.fact 29 rfl)
  have g_Session := He.glo_ok X G (x := "Session") (c.fact 30 rfl)
  have g_LabelledFolding := He.glo_ok X G (x := "LabelledFolding") (c.fact 31 rfl)
  have g_UnknownEntry := He.glo_ok X G (x := "UnknownEntry") (c.fact 32 rfl)
  have g_InvalidUser := He.glo_ok X G (x := "InvalidUser") (c.fact 33 rfl)
  have g_NothingToUndo := He.glo_ok X G (x := "NothingToUndo") (c.fact 34 rfl)
  have g_LimitExceeded := He.glo_ok X G (x := "LimitExceeded") (c.fact 35 rfl)
  have e := hfa.symm.trans g_law
  cases e
  have B : Bi mg := ⟨He.free_ok X G (x := "len") (c.fact 36 rfl), He.free_ok X G (x := "range") (c.fact 37 rfl), He.free_ok X G (x := "enumerate") (c.fact 38 rfl), He.free_ok X G (x := "isinstance") (c.fact 39 rfl), He.free_ok X G (x := "int") (c.fact 40 rfl), He.free_ok X G (x := "str") (c.fact 41 rfl), He.free_ok X G (x := "bool") (c.fact 42 rfl), He.free_ok X G (x := "list") (c.fact 43 rfl), He.free_ok X G (x := "tuple") (c.fact 44 rfl), He.free_ok X G (x := "sorted") (c.fact 45 rfl), He.free_ok X G (x := "all") (c.fact 46 rfl), He.free_ok X G (x := "repr") (c.fact 47 rfl), He.free_ok X G (x := "max") (c.fact 48 rfl), He.free_ok X G (x := "min") (c.fact 49 rfl), He.str_ok X G (x := "STEPS") (c.fact 52 rfl), He.int_ok X G (x := "MAX_STEPS") (i := 400) (c.fact 53 rfl), He.int_ok X G (x := "MAX_GENERATORS") (i := 16) (c.fact 54 rfl), He.int_ok X G (x := "MAX_GENERATOR_STEPS") (i := 60) (c.fact 55 rfl), He.int_ok X G (x := "USER_COUNT") (i := 4) (c.fact 56 rfl), He.int_ok X G (x := "MAX_CHANGES") (i := 200) (c.fact 57 rfl)⟩
  have T : LFT K (He.ga K "LabelledFolding") := ⟨He.cls_ok (x := "LabelledFolding") (c.fact 58 rfl), He.noat_ok (x := "LabelledFolding") (f := "lines") (c.fact 60 rfl), He.noat_ok (x := "LabelledFolding") (f := "targets_of") (c.fact 61 rfl), He.noat_ok (x := "LabelledFolding") (f := "merged") (c.fact 62 rfl), He.noat_ok (x := "LabelledFolding") (f := "next_node") (c.fact 63 rfl), He.noat_ok (x := "LabelledFolding") (f := "pending") (c.fact 64 rfl)⟩
  have TS : SST K (He.ga K "Session") := ⟨He.cls_ok (x := "Session") (c.fact 59 rfl), He.noat_ok (x := "Session") (f := "added") (c.fact 65 rfl), He.noat_ok (x := "Session") (f := "changes") (c.fact 66 rfl), He.noat_ok (x := "Session") (f := "change_count") (c.fact 67 rfl)⟩
  obtain ⟨x1, ex⟩ := Bool.and_eq_true_iff.mp ex
  obtain ⟨x2, ex⟩ := Bool.and_eq_true_iff.mp ex
  obtain ⟨x3, ex⟩ := Bool.and_eq_true_iff.mp ex
  obtain ⟨x4, x5⟩ := Bool.and_eq_true_iff.mp ex
  have OU := ownB_ok x1
  have ON := ownB_ok x2
  have IS := isiB_ok x3
  have b := FunD.bindsA (ps := ["_law_script"]) F_law fun _ _ _ _ _ _ us hl => match us, hl with | [_], _ => rfl
  refine ⟨d_law, fun s v => b s [v] rfl, fun base _ _ => ?_⟩
  have z_isInt : Has P w K mg base 1 "is_integer" ["value"] spIsInt := Has.mk' F_is_integer g_is_integer (F_is_integer.bindsN fun _ _ _ _ _ _ us hl => match us, hl with | [_], _ => rfl) (ok_isInt F_is_integer B)
  have z_isPath : Has P w K mg base 1 "is_path" ["value"] spIsPath := Has.mk' F_is_path g_is_path (F_is_path.bindsN fun _ _ _ _ _ _ us hl => match us, hl with | [_], _ => rfl) (ok_isPath F_is_path B)
  have z_reqPath : Has P w K mg base 2 "require_path" ["value"] spReqPath := Has.mk' F_require_path g_require_path (F_require_path.bindsN fun _ _ _ _ _ _ us hl => match us, hl with | [_], _ => rfl) (ok_reqPath F_require_path z_isPath)
  have z_reduce : Has P w K mg base 1 "reduce_all" ["parts"] (spReduce K) := Has.mk' F_reduce_all g_reduce_all (F_reduce_all.bindsN fun _ _ _ _ _ _ us hl => match us, hl with | [_], _ => rfl) (ok_reduce F_reduce_all B)
  have z_redGen : Has P w K mg base 2 "reduced_generator" ["path"] spRedGen := Has.mk' F_reduced_generator g_reduced_generator (F_reduced_generator.bindsN fun _ _ _ _ _ _ us hl => match us, hl with | [_], _ => rfl) (ok_redGen F_reduced_generator B z_reduce)
  have z_req : Has P w K mg base 1 "required_lines" ["lines", "last"] (spReq K) := Has.mk' F_required_lines g_required_lines (F_required_lines.bindsN fun _ _ _ _ _ _ us hl => match us, hl with | [_, _], _ => rfl) (ok_req F_required_lines B)
  have z_back : Has P w K mg base 1 "_law_back" ["_law_step"] spBack := Has.mk' F__law_back g__law_back (F__law_back.bindsN fun _ _ _ _ _ _ us hl => match us, hl with | [_], _ => rfl) (ok_back F__law_back)
  have z_rev : Has P w K mg base 2 "_law_reversed" ["_law_path_here"] spRev := Has.mk' F__law_reversed g__law_reversed (F__law_reversed.bindsN fun _ _ _ _ _ _ us hl => match us, hl with | [_], _ => rfl) (ok_rev F__law_reversed z_back)
  have z_short : Has P w K mg base 2 "_law_short" ["_law_path_here"] spShort := Has.mk' F__law_short g__law_short (F__law_short.bindsN fun _ _ _ _ _ _ us hl => match us, hl with | [_], _ => rfl) (ok_short F__law_short z_back)
  have z_lIsInt : Has P w K mg base 1 "_law_is_integer" ["_law_value"] spIsInt := Has.mk' F__law_is_integer g__law_is_integer (F__law_is_integer.bindsN fun _ _ _ _ _ _ us hl => match us, hl with | [_], _ => rfl) (ok_lIsInt F__law_is_integer B)
  have z_genL : HasM P w K mg base 1 (He.ga K "LabelledFolding") "generator_line" ["self", "index"] (spGenL _) := ⟨_, _, He.meth_ok (x := "LabelledFolding") (m := "generator_line") (c.fact 70 rfl), F_LabelledFolding_generator_line.bindsN fun _ _ _ _ _ _ us hl => match us, hl with | [_, _], _ => rfl, ok_genL F_LabelledFolding_generator_line B T⟩
  have z_invL : HasM P w K mg base 1 (He.ga K "LabelledFolding") "inverse_line" ["self", "line"] (spInvL _) := ⟨_, _, He.meth_ok (x := "LabelledFolding") (m := "inverse_line") (c.fact 71 rfl), F_LabelledFolding_inverse_line.bindsN fun _ _ _ _ _ _ us hl => match us, hl with | [_, _], _ => rfl, ok_invL F_LabelledFolding_inverse_line B T⟩
  have z_proL : HasM P w K mg base 1 (He.ga K "LabelledFolding") "product_line" ["self", "first", "second"] (spProL _) := ⟨_, _, He.meth_ok (x := "LabelledFolding") (m := "product_line") (c.fact 72 rfl), F_LabelledFolding_product_line.bindsN fun _ _ _ _ _ _ us hl => match us, hl with | [_, _, _], _ => rfl, ok_proL F_LabelledFolding_product_line B T⟩
  have z_walk : HasM P w K mg base 2 (He.ga K "LabelledFolding") "walk" ["self", "path"] (spWalk _) := ⟨_, _, He.meth_ok (x := "LabelledFolding") (m := "walk") (c.fact 74 rfl), F_LabelledFolding_walk.bindsN fun _ _ _ _ _ _ us hl => match us, hl with | [_, _], _ => rfl, ok_walk F_LabelledFolding_walk B T z_proL⟩
  have z_addE : HasM P w K mg base 2 (He.ga K "LabelledFolding") "add_edge" psAddE (spAddE _) := ⟨_, _, He.meth_ok (x := "LabelledFolding") (m := "add_edge") (c.fact 75 rfl), F_LabelledFolding_add_edge.bindsN fun _ _ _ _ _ _ us hl => match us, hl with | [_, _, _, _, _], _ => rfl, ok_addE F_LabelledFolding_add_edge T z_invL z_proL⟩
  have z_cur : HasM P w K mg base 2 (He.ga K "LabelledFolding") "current" ["self", "node"] (spCur _) := ⟨_, _, He.meth_ok (x := "LabelledFolding") (m := "current") (c.fact 76 rfl), F_LabelledFolding_current.bindsN fun _ _ _ _ _ _ us hl => match us, hl with | [_, _], _ => rfl, ok_cur F_LabelledFolding_current T z_proL⟩
  have z_merge : HasM P w K mg base 3 (He.ga K "LabelledFolding") "merge" psMerge (spMerge _) := ⟨_, _, He.meth_ok (x := "LabelledFolding") (m := "merge") (c.fact 78 rfl), F_LabelledFolding_merge.bindsN fun _ _ _ _ _ _ us hl => match us, hl with | [_, _, _, _], _ => rfl, ok_merge F_LabelledFolding_merge B T z_invL z_proL z_addE⟩
  have z_MP : HasM P w K mg base 4 (He.ga K "LabelledFolding") "merge_pending" ["self"] (spMP _) := ⟨_, _, He.meth_ok (x := "LabelledFolding") (m := "merge_pending") (c.fact 77 rfl), F_LabelledFolding_merge_pending.bindsN fun _ _ _ _ _ _ us hl => match us, hl with | [_], _ => rfl, ok_MP F_LabelledFolding_merge_pending T z_invL z_proL z_cur z_merge⟩
  have z_addG : HasM P w K mg base 5 (He.ga K "LabelledFolding") "add_generator" ["self", "index", "path"] (spAddG _) := ⟨_, _, He.meth_ok (x := "LabelledFolding") (m := "add_generator") (c.fact 73 rfl), F_LabelledFolding_add_generator.bindsN fun _ _ _ _ _ _ us hl => match us, hl with | [_, _, _], _ => rfl, ok_addG F_LabelledFolding_add_generator B T z_invL z_proL z_genL z_walk z_addE z_MP⟩
  have z_LF : HasI P w K mg base 6 "LabelledFolding" (He.ga K "LabelledFolding") ["self", "paths"] (spLInit K _) := ⟨_, _, g_LabelledFolding, He.mkr_ok (x := "LabelledFolding") (c.fact 95 rfl), F_LabelledFolding_init.bindsN fun _ _ _ _ _ _ us hl => match us, hl with | [_, _], _ => rfl, ok_LInit F_LabelledFolding_init B T z_addG⟩
  have z_der : HasM P w K mg base 3 (He.ga K "LabelledFolding") "derivation_of" ["self", "path"] (spDer _) := ⟨_, _, He.meth_ok (x := "LabelledFolding") (m := "derivation_of") (c.fact 79 rfl), F_LabelledFolding_derivation_of.bindsN fun _ _ _ _ _ _ us hl => match us, hl with | [_, _], _ => rfl, ok_der F_LabelledFolding_derivation_of B T z_walk z_req⟩
  have z_derive : Has P w K mg base 8 "derive_all" ["paths", "goals"] (spDerive K) := Has.mk' F_derive_all g_derive_all (F_derive_all.bindsN fun _ _ _ _ _ _ us hl => match us, hl with | [_, _], _ => rfl) (ok_derive F_derive_all T z_LF z_der)
  have z_initial : Has P w K mg base 3 "_law_initial" ["_law_paths"] (spInitial K) := Has.mk' F__law_initial g__law_initial (F__law_initial.bindsN fun _ _ _ _ _ _ us hl => match us, hl with | [_], _ => rfl) (ok_initial F__law_initial B z_short z_back)
  have z_conflict : Has P w K mg base 2 "_law_conflict" ["_law_edges"] (spConflict K) := Has.mk' F__law_conflict g__law_conflict (F__law_conflict.bindsN fun _ _ _ _ _ _ us hl => match us, hl with | [_], _ => rfl) (ok_conflict F__law_conflict B z_back)
  have z_merged : Has P w K mg base 1 "_law_merged" ["_law_edge", "_law_pair"] (spMerged K) := Has.mk' F__law_merged g__law_merged (F__law_merged.bindsN fun _ _ _ _ _ _ us hl => match us, hl with | [_, _], _ => rfl) (ok_merged F__law_merged B)
  have z_folded : Has P w K mg base 4 "_law_folded" ["_law_paths"] (spFolded K) := Has.mk' F__law_folded g__law_folded (F__law_folded.bindsN fun _ _ _ _ _ _ us hl => match us, hl with | [_], _ => rfl) (ok_folded F__law_folded z_initial z_conflict z_merged)
  have z_end : Has P w K mg base 1 "_law_end" psEnd spEnd := Has.mk' F__law_end g__law_end (F__law_end.bindsN fun _ _ _ _ _ _ us hl => match us, hl with | [_, _, _], _ => rfl) (ok_end F__law_end)
  have z_pool : Has P w K mg base 1 "_law_pool" ["_law_script", "_law_index"] (spPool K) := Has.mk' F__law_pool g__law_pool (F__law_pool.bindsN fun _ _ _ _ _ _ us hl => match us, hl with | [_, _], _ => rfl) (ok_pool F__law_pool B)
  have z_draw : Has P w K mg base 1 "_law_draw" ["_law_pool_here", "_law_bound"] spDraw := Has.mk' F__law_draw g__law_draw (F__law_draw.bindsN fun _ _ _ _ _ _ us hl => match us, hl with | [_, _], _ => rfl) (ok_draw F__law_draw)
  have z_path : Has P w K mg base 2 "_law_path" psPath spPath := Has.mk' F__law_path g__law_path (F__law_path.bindsN fun _ _ _ _ _ _ us hl => match us, hl with | [_, _, _], _ => rfl) (ok_path F__law_path B z_draw)
  have z_product : Has P w K mg base 3 "_law_product" psProduct (spProduct K) := Has.mk' F__law_product g__law_product (F__law_product.bindsN fun _ _ _ _ _ _ us hl => match us, hl with | [_, _, _], _ => rfl) (ok_product F__law_product B z_draw z_rev)
  have z_current : Has P w K mg base 1 "_law_current" ["_law_model"] spCurrent := Has.mk' F__law_current g__law_current (F__law_current.bindsN fun _ _ _ _ _ _ us hl => match us, hl with | [_], _ => rfl) (ok_current F__law_current B)
  have z_listed : Has P w K mg base 2 "_law_listed" ["_law_model"] spListed := Has.mk' F__law_listed g__law_listed (F__law_listed.bindsN fun _ _ _ _ _ _ us hl => match us, hl with | [_], _ => rfl) (ok_listed F__law_listed z_current)
  have z_undone : Has P w K mg base 2 "_law_undone" ["_law_model", "_law_who"] spUndone := Has.mk' F__law_undone g__law_undone (F__law_undone.bindsN fun _ _ _ _ _ _ us hl => match us, hl with | [_, _], _ => rfl) (ok_undone F__law_undone B z_current)
  have z_expected : Has P w K mg base 5 "_law_expected" ["_law_model", "_law_change_here"] spExpected := Has.mk' F__law_expected g__law_expected (F__law_expected.bindsN fun _ _ _ _ _ _ us hl => match us, hl with | [_, _], _ => rfl) (ok_expected F__law_expected B z_lIsInt z_current z_undone z_short z_listed z_folded z_end)
  have z_S : HasI P w K mg base 1 "Session" (He.ga K "Session") ["self"] (spSInit _) := ⟨_, _, g_Session, He.mkr_ok (x := "Session") (c.fact 94 rfl), F_Session_init.bindsN fun _ _ _ _ _ _ us hl => match us, hl with | [_], _ => rfl, ok_sInit F_Session_init TS⟩
  have z_isCur : HasM P w K mg base 1 (He.ga K "Session") "is_current" ["self", "entry"] (spIsCur _) := ⟨_, _, He.meth_ok (x := "Session") (m := "is_current") (c.fact 80 rfl), F_Session_is_current.bindsN fun _ _ _ _ _ _ us hl => match us, hl with | [_, _], _ => rfl, ok_isCur F_Session_is_current TS⟩
  have z_entries : HasM P w K mg base 2 (He.ga K "Session") "entries" ["self"] (spEntries _) := ⟨_, _, He.meth_ok (x := "Session") (m := "entries") (c.fact 81 rfl), F_Session_entries.bindsN fun _ _ _ _ _ _ us hl => match us, hl with | [_], _ => rfl, ok_entries F_Session_entries B TS z_isCur⟩
  have z_paths : HasM P w K mg base 3 (He.ga K "Session") "paths" ["self"] (spPaths _) := ⟨_, _, He.meth_ok (x := "Session") (m := "paths") (c.fact 82 rfl), F_Session_paths.bindsN fun _ _ _ _ _ _ us hl => match us, hl with | [_], _ => rfl, ok_paths F_Session_paths TS z_entries z_reduce⟩
  have z_reqUser : HasM P w K mg base 2 (He.ga K "Session") "require_user" ["self", "user"] spReqUser := ⟨_, _, He.meth_ok (x := "Session") (m := "require_user") (c.fact 83 rfl), F_Session_require_user.bindsN fun _ _ _ _ _ _ us hl => match us, hl with | [_, _], _ => rfl, ok_reqUser F_Session_require_user B z_isInt⟩
  have z_record : HasM P w K mg base 1 (He.ga K "Session") "record" ["self", "user", "word", "entry"] (spRecord _) := ⟨_, _, He.meth_ok (x := "Session") (m := "record") (c.fact 84 rfl), F_Session_record.bindsN fun _ _ _ _ _ _ us hl => match us, hl with | [_, _, _, _], _ => rfl, ok_record F_Session_record TS⟩
  have z_hist : HasM P w K mg base 1 (He.ga K "Session") "history" ["self"] (spHist _) := ⟨_, _, He.meth_ok (x := "Session") (m := "history") (c.fact 88 rfl), F_Session_history.bindsN fun _ _ _ _ _ _ us hl => match us, hl with | [_], _ => rfl, ok_hist F_Session_history B TS⟩
  have z_UE : HasX P w K mg base "UnknownEntry" (He.ga K "UnknownEntry") "IndexError.__new__" ixMro ["self", "value"] "value" := ⟨OU, g_UnknownEntry, He.noat_ok (x := "UnknownEntry") (f := "value") (c.fact 68 rfl), _, _, (He.meth_ok (x := "UnknownEntry") (m := "__init__") (c.fact 92 rfl)).1, beq_iff_eq.mp (He.meth_ok (x := "UnknownEntry") (m := "__init__") (c.fact 92 rfl)).2, F_UnknownEntry_init.bindsN fun _ _ _ _ _ _ us hl => match us, hl with | [_, _], _ => rfl, ok_UE F_UnknownEntry_init (He.free_ok X G (x := "IndexError") (c.fact 50 rfl)) (by rfl) OU (He.noat_ok (x := "UnknownEntry") (f := "value") (c.fact 68 rfl))⟩
  have z_NU : HasX P w K mg base "NothingToUndo" (He.ga K "NothingToUndo") "RuntimeError.__new__" rtMro ["self", "user"] "user" := ⟨ON, g_NothingToUndo, He.noat_ok (x := "NothingToUndo") (f := "user") (c.fact 69 rfl), _, _, (He.meth_ok (x := "NothingToUndo") (m := "__init__") (c.fact 93 rfl)).1, beq_iff_eq.mp (He.meth_ok (x := "NothingToUndo") (m := "__init__") (c.fact 93 rfl)).2, F_NothingToUndo_init.bindsN fun _ _ _ _ _ _ us hl => match us, hl with | [_, _], _ => rfl, ok_NU F_NothingToUndo_init (He.free_ok X G (x := "RuntimeError") (c.fact 51 rfl)) (by rfl) ON (He.noat_ok (x := "NothingToUndo") (f := "user") (c.fact 69 rfl))⟩
  have z_addP : HasK P w K mg base CX0 9 (He.ga K "Session") "add_path" "user" 2 ["self", "path", "user"] (spAddP _) := ⟨_, _, He.meth_ok (x := "Session") (m := "add_path") (c.fact 85 rfl), kwBinds F_Session_add_path fun _ _ _ _ _ _ us v hl => match us, hl with | [_, _], _ => rfl, ok_addP F_Session_add_path B TS z_reqPath z_reqUser z_redGen z_entries z_paths z_derive z_record⟩
  have z_rem : HasK P w K mg base (L2.CX P w) 3 (He.ga K "Session") "remove_entry" "user" 2 nsRem (spRem _ _) := ⟨_, _, He.meth_ok (x := "Session") (m := "remove_entry") (c.fact 86 rfl), kwBinds F_Session_remove_entry fun _ _ _ _ _ _ us v hl => match us, hl with | [_, _], _ => rfl, ok_rem F_Session_remove_entry B TS z_isInt z_isCur z_reqUser z_record z_UE⟩
  have z_undo : HasK P w K mg base (L2.CX P w) 3 (He.ga K "Session") "undo" "user" 1 ["self", "user"] (spUndo _ _) := ⟨_, _, He.meth_ok (x := "Session") (m := "undo") (c.fact 87 rfl), kwBinds F_Session_undo fun _ _ _ _ _ _ us v hl => match us, hl with | [_], _ => rfl, ok_undo F_Session_undo B TS z_reqUser z_entries z_NU⟩
  have z_len : HasO P w K mg base 3 (He.ga K "Session") "__len__" ["self"] (spLen _) := ⟨_, _, (He.meth_ok (x := "Session") (m := "__len__") (c.fact 90 rfl)).1, (He.meth_ok (x := "Session") (m := "__len__") (c.fact 90 rfl)).2, F_Session_len.bindsN fun _ _ _ _ _ _ us hl => match us, hl with | [_], _ => rfl, FnS.of (ok_len F_Session_len B TS z_entries)⟩
  have z_repr : HasO P w K mg base 3 (He.ga K "Session") "__repr__" ["self"] (spRepr _) := ⟨_, _, (He.meth_ok (x := "Session") (m := "__repr__") (c.fact 91 rfl)).1, (He.meth_ok (x := "Session") (m := "__repr__") (c.fact 91 rfl)).2, F_Session_repr.bindsN fun _ _ _ _ _ _ us hl => match us, hl with | [_], _ => rfl, ok_repr F_Session_repr TS z_entries⟩
  have z_eq : HasQ P w K mg base (He.ga K "Session") := ⟨_, _, (He.meth_ok (x := "Session") (m := "__eq__") (c.fact 89 rfl)).1, (He.meth_ok (x := "Session") (m := "__eq__") (c.fact 89 rfl)).2, F_Session_eq.bindsN fun _ _ _ _ _ _ us hl => match us, hl with | [_, _], _ => rfl, ok_eq F_Session_eq B TS IS g_Session z_entries⟩
  have z_actual : Has P w K mg base 10 "_law_actual" ["_law_session", "_law_change_here"] (spActual _) := Has.mk' F__law_actual g__law_actual (F__law_actual.bindsN fun _ _ _ _ _ _ us hl => match us, hl with | [_, _], _ => rfl) (ok_actual F__law_actual B TS z_addP z_rem z_undo (L2.xfB_ok x4) (L2.xfB_ok x5) (He.noat_ok (x := "UnknownEntry") (f := "value") (c.fact 68 rfl)) (He.noat_ok (x := "NothingToUndo") (f := "user") (c.fact 69 rfl)) g_UnknownEntry g_InvalidUser g_NothingToUndo g_LimitExceeded (He.exm_ok (x := "UnknownEntry") (y := "UnknownEntry") (c.fact 96 rfl)) (He.exm_ok (x := "NothingToUndo") (y := "UnknownEntry") (c.fact 97 rfl)) (He.exm_ok (x := "NothingToUndo") (y := "InvalidUser") (c.fact 98 rfl)) (He.exm_ok (x := "NothingToUndo") (y := "NothingToUndo") (c.fact 99 rfl)))
  have z_state : HasS P w K mg base 5 "_law_state" ["_law_session"] (spState _) := ⟨_, _, g__law_state, F__law_state.kp, F__law_state.bindsN fun _ _ _ _ _ _ us hl => match us, hl with | [_], _ => rfl, ok_state F__law_state B TS z_entries z_hist z_len z_repr⟩
  have z_due : HasS P w K mg base 2 "_law_due" ["_law_model"] spDue := ⟨_, _, g__law_due, F__law_due.kp, F__law_due.bindsN fun _ _ _ _ _ _ us hl => match us, hl with | [_], _ => rfl, ok_due F__law_due B z_current⟩
  have z_change : Has P w K mg base 4 "_law_change" ["_law_pool_here", "_law_model"] spChange := Has.mk' F__law_change g__law_change (F__law_change.bindsN fun _ _ _ _ _ _ us hl => match us, hl with | [_, _], _ => rfl) (ok_change F__law_change B z_draw z_path z_product z_short z_listed)
  have z_emptied : HasS P w K mg base 11 "_law_emptied" psEmptied (spEmptied _) := ⟨_, _, g__law_emptied, F__law_emptied.kp, F__law_emptied.bindsN fun _ _ _ _ _ _ us hl => match us, hl with | [_, _, _], _ => rfl, ok_emptied F__law_emptied B TS z_draw z_actual z_expected z_state z_due z_len z_hist z_entries z_eq z_S⟩
  exact ok_law F_law B z_pool z_S z_draw z_change z_actual z_expected z_emptied z_path z_state z_due
end K73
set_option Elab.async false
set_option linter.all false
set_option maxRecDepth 100000
set_option maxHeartbeats 0
/-! K73Run: the head is run. -/
namespace K73
open PySem PySem.Spec PyProof.Rows L2
abbrev AlY : Type := He.AlD × Bool
def fNames : List Str := ["is_integer", "is_path", "require_path", "reduce_all", "reduced_generator", "required_lines", "derive_all", "_law_pool", "_law_draw", "_law_path", "_law_back", "_law_reversed", "_law_short", "_law_initial", "_law_conflict", "_law_merged", "_law_folded", "_law_end", "_law_product", "_law_is_integer", "_law_current", "_law_listed", "_law_undone", "_law_expected", "_law_actual", "_law_state", "_law_due", "_law_change", "_law_emptied", "law"]
def cNames : List Str := ["Session", "LabelledFolding", "UnknownEntry", "NothingToUndo", "InvalidUser", "LimitExceeded"]
def mNames : List (Str × Str) := [("LabelledFolding", "__init__"), ("LabelledFolding", "generator_line"), ("LabelledFolding", "inverse_line"), ("LabelledFolding", "product_line"), ("LabelledFolding", "add_generator"), ("LabelledFolding", "walk"), ("LabelledFolding", "add_edge"), ("LabelledFolding", "current"), ("LabelledFolding", "merge_pending"), ("LabelledFolding", "merge"), ("LabelledFolding", "derivation_of"), ("Session", "__init__"), ("Session", "is_current"), ("Session", "entries"), ("Session", "paths"), ("Session", "require_user"), ("Session", "record"), ("Session", "add_path"), ("Session", "remove_entry"), ("Session", "undo"), ("Session", "history"), ("Session", "__eq__"), ("Session", "__len__"), ("Session", "__repr__"), ("UnknownEntry", "__init__"), ("NothingToUndo", "__init__")]
/-- the namespace of the class at a -/
def nsAt (g : Addr → Option Obj) (a : Addr) : List Addr := match g a with
  | some ⟨_, _, .cls cd, _⟩ => [cd.ns]
  | _ => []
/-- what is asked of the function at a: its code, the values of its keywords -/
def cdAt (g : Addr → Option Obj) (a : Addr) : List Addr := match g a with
  | some ⟨_, _, .func fd, _⟩ => He.refV fd.code ++ He.refV fd.kwdefaults
  | _ => []
def as1 (g : Addr → Option Obj) : List Addr := cNames.map fun x => He.ga (He.frG g [mainGlobals]) x
def as2 (g : Addr → Option Obj) : List Addr := mainGlobals :: (as1 g ++ (as1 g).flatMap (nsAt g))
def as3 (g : Addr → Option Obj) : List Addr := (mNames.map fun p => He.ma (He.frG g (as2 g)) (He.ga (He.frG g (as2 g)) p.1) p.2) ++ fNames.map fun x => He.ga (He.frG g (as2 g)) x
def asY (g : Addr → Option Obj) : List Addr := as2 g ++ (as3 g ++ (as3 g).flatMap (cdAt g))
def obY (g : Addr → Option Obj) : AlY := (He.obsD faL fnL (He.frG g (asY g)), exB (He.frG g (asY g)))
def hkY : PySem.W.Hook where
  α := AlY
  obs := fun s => obY s.heap.get?
  val := fun _ => (He.valD fnL, true)
  says := fun _ h => ∃ K : PySem.W.Frag, K.In h ∧ He.SaysD faL fnL K ∧ exB K = true
  of := fun _ _ e => ⟨_, He.frG_in, congrArg (fun z : AlY => z.1) e, congrArg (fun z : AlY => z.2) e⟩
  keeps := fun _ _ _ ⟨K, inK, told⟩ k => ⟨K, PySem.W.Frag.In.keeps inK k, told⟩
def ob (s : PySem.W.SharedT) : AlY := obY (HandSHeadRun.getT s)
theorem ob_eq (s : PySem.W.SharedT) : ob s = hkY.obs s.abs := by
  have e : HandSHeadRun.getT s = s.abs.heap.get? := funext (HandSHeadRun.getT_eq s)
  show obY (HandSHeadRun.getT s) = obY s.abs.heap.get?
  rw [e]
abbrev R : PySem.W.OpenRow := PySem.W.OpenLaw.row PySem.Challenge.rw_walkshome_k73_whole_undo_restores_everyt
abbrev qv : Program := PySem.W.view R.prog [68]
def names0 : List PySem.Str := ["_wall", "PathError", "InvalidPath", "InvalidPaths", "InvalidNumber", "InvalidGraph", "InvalidUser", "InvalidNode", "InvalidFold", "UnknownEntry", "LimitExceeded", "NotFolded", "NothingToUndo", "STEPS", "MAX_STEPS", "MAX_GENERATORS", "MAX_GENERATOR_STEPS", "is_integer", "is_path", "require_path", "reduce_all", "require_paths", "reduced_generator", "reduced_generators", "LETTERS", "MAX_NODES", "Graph", "breadth_first_numbers", "canonical_graph", "initial_edges"]
def names1 : List PySem.Str := ["Folding", "fold_paths", "LabelledFolding", "required_lines", "derive_all", "USER_COUNT", "MAX_CHANGES", "Session", "_law_pool", "_law_draw", "_law_path", "_law_back", "_law_reversed", "_law_short", "_law_initial", "_law_conflict", "_law_merged", "_law_folded", "_law_end", "_law_product", "_law_is_integer", "_law_current", "_law_listed", "_law_undone", "_law_expected", "_law_actual", "_law_state", "_law_due", "_law_change", "_law_emptied"]
def names : List PySem.Str := names0 ++ names1
theorem headRun (w : World) : HandSHeadRun.RunEq R qv hkY ob 12000 names w := by
  intro os
  kernel_rfl
end K73
set_option Elab.async false
set_option linter.all false
set_option maxRecDepth 100000
set_option maxHeartbeats 4000000
/-! K73End: the law's end, for a promise that is kept where nothing is being printed. -/
namespace K73
open PySem PySem.Spec PyProof.Rows L2
/-- the script, told where it is no object of the module -/
def scr (K : PySem.W.Frag) (a : Addr) (vs : List Value) (ns : List Int) : Hp := fun b => if b = a ∧ K.lookup a = none then some (.frz { cls := .type "list", data := .seq vs.toArray } (.lst (ns.map V.int))) else none
section
variable {P : Program} {w : World} {K : PySem.W.Frag} {mg mb : Str → Option Value} {k : Nat} {fa a : Addr} {fd : FuncData} {x : Str} {sp : Sp} {s₁ : Shared} {vs : List Value} {ns : List Int}
theorem scr_some {b : Addr} {u : HO} (h : scr K a vs ns b = some u) : b = a ∧ K.lookup a = none ∧ u = .frz { cls := .type "list", data := .seq vs.toArray } (.lst (ns.map V.int)) := by
  unfold scr at h
  split at h
  · rename_i c
    exact ⟨c.1, c.2, (Option.some.inj h).symm⟩
  · cases h
theorem scr_off {b : Addr} (h : b ≠ a) : scr K a vs ns b = none := if_neg fun c => h c.1
theorem law_here (KX : K.In s₁.heap) (hns : s₁.heap.Ns mainGlobals mg) (hb : s₁.heap.Ns builtinsNs mb) (hbb : ∀ x : Str, x ≠ "__name__" → mb x = bootBuiltins x) (hlim : s₁.heap.NoLimit) (hg : s₁.gens = #[])
    (ha : s₁.heap.get? a = some { cls := .type "list", data := .seq vs.toArray }) (hi : IntsAre vs ns) (hl : ns.length ≤ sizeLine) (hr : Room k callerA)
    (F : ∀ base : Heap, K.In base → base.Ns mainGlobals mg → FnS P w K mg base k fa fd [x] sp) (hbind : ∀ (s : Shared) (u : Value), BindsTo s fd ⟨[u], []⟩ [(x, u)])
    (hsp : ∀ H : Hp, SqL K H a (ns.map V.int) → sp [.ref a] H (fun v _ => v = .bl true) fun _ _ _ => False) :
    codeAny (model P w) callerA (.call (.ref fa) ⟨[.ref a], []⟩) (fun r s' => r = .ok (.ret (.bool true)) ∧ OldK s₁.heap s'.heap ∧ s'.os = s₁.os ∧ AllBare s'.gens) s₁ := by
  have rel : Vals (ns.map V.int) vs := vals_ints hi
  -- a dict is not the script
  have dict_off : ∀ {b : Addr} {o : Obj} {es : Array DictEntry} {ep : Nat}, s₁.heap.get? b = some o → o.data = .dict es ep → scr K a vs ns b = none := fun {b o es ep} e d => by
    refine scr_off fun z => ?_
    rw [z, ha] at e
    cases e
    exact nomatch (show Data.seq vs.toArray _ = Data.dict es ep from d)
  have names : ∀ {b : Addr} {m : Str → Option Value}, s₁.heap.Ns b m → (hidT s₁.heap (scr K a vs ns)).Ns b m := fun ⟨o, es, ep, e, d, r⟩ => ⟨o, es, ep, hidT_get e (dict_off e d), d, r⟩
  have KB : K.In (hidT s₁.heap (scr K a vs ns)) := fun b o e => hidT_get (KX b o e) (by
    cases q : scr K a vs ns b with
    | none => rfl
    | some u =>
      obtain ⟨e1, e2, _⟩ := scr_some q
      rw [e1, e2] at e
      cases e)
  have told : HOk P w (scr K a vs ns) s₁.heap := fun b u q => by
    obtain ⟨rfl, _, rfl⟩ := scr_some q
    exact ⟨ha, by rw [List.length_map]; exact hl, vs, _, rel, ha⟩
  have script : SqL K (scr K a vs ns) a (ns.map V.int) := by
    cases q : K.lookup a with
    | none => exact .inl (.inr ⟨_, if_pos ⟨rfl, q⟩⟩)
    | some o =>
      have e := KX a o q
      rw [ha] at e
      cases e
      exact .inr ⟨_, vs.toArray, _, q, rfl, rfl, rfl, by rw [List.size_toArray, hi.length]; exact hl, by simpa using rel⟩
  have mods : Mod K mg (hidT s₁.heap (scr K a vs ns)) := ⟨KB, names hns, ⟨mb, names hb, hbb⟩, let ⟨mc, h1, h2⟩ := hlim; ⟨mc, names h1, h2⟩⟩
  have env : Env0 P w K mg (hidT s₁.heap (scr K a vs ns)) callerA [] s₁ (scr K a vs ns) := ⟨rfl, mods, fun b o e => of_hidT e, Nat.le_of_eq (hidT_size _ _), trivial, fun b hb => absurd (show b ∈ ([] : List Addr) from hb) (by simp), told, .of_eq hg⟩
  refine codeAny_mono ((F _ KB (names hns)).go callerA still_caller [] s₁ (scr K a vs ns) ⟨[.ref a], []⟩ [.ref a] [.ref a] _ _ hr env (hbind s₁ (.ref a)) (.cons rfl .nil) (hsp _ script)) fun r s' h => ?_
  cases r with
  | error e => exact False.elim h
  | ok fl =>
    cases fl with
    | next => exact False.elim h
    | brk => exact False.elim h
    | cont => exact False.elim h
    | ret u =>
      obtain ⟨v, H', os, bare, un, after, rv, ev⟩ := h
      have ev : v = .bl true := ev
      subst ev
      obtain rfl : u = Value.bool true := rv
      refine ⟨rfl, OldK.of_keep fun b o e => ?_, os, bare⟩
      cases q : scr K a vs ns b with
      | none => exact un.keep b o e q (by intro z; exact absurd (show b ∈ ([] : List Addr) from z) (by simp)) (by simp)
      | some u =>
        obtain ⟨rfl, _, rfl⟩ := scr_some q
        obtain ⟨e2, _⟩ := after _ _ (un.frzs _ _ _ q)
        rw [ha] at e
        cases e
        exact e2
end
theorem law_end {l : PySem.W.OpenLaw} {n k : Nat} {q : Program} {loose : List Str} {XP : (Str → Option Value) → Heap → Prop} {YP : World → Heap → Prop} {d : DefRec} {x : Str} (hn : l.most = some n) (hn2 : n ≤ sizeLine) (hdf : d.params.defaults = []) (hr : Room k callerA)
    (F : ∀ (w : World) (mg : Str → Option Value) (fa : Addr) (h : Heap), YP w h → h.Ns mainGlobals mg → mg d.name = some (.ref fa) → ∃ (K : PySem.W.Frag) (fd : FuncData) (sp : Sp), K.In h ∧ (∀ (s : Shared) (u : Value), BindsTo s fd ⟨[u], []⟩ [(x, u)]) ∧
      (∀ (H : Hp) (a : Addr) (ns : List Int), ns.length ≤ n → SqL K H a (ns.map V.int) → sp [.ref a] H (fun v _ => v = .bl true) fun _ _ _ => False) ∧ ∀ base : Heap, K.In base → base.Ns mainGlobals mg → FnS l.prog w K mg base k fa fd [x] sp) :
    PySem.W.WalkO q loose XP YP l.row.toRowW d [] (fun f vs => PySem.call f vs) := by
  refine Att.attach_call hn hdf fun w s₀ s₁ mg mb fa o pm cd doc a vs ns G Y ho hd hcd hmg hobj hints hlen hg => ?_
  obtain ⟨K, fd, sp, KX, hb, hsp, hF⟩ := F w mg fa _ Y G.T.g hmg
  exact law_here KX G.T.g G.T.b G.T.builtins G.T.nolimit hg hobj hints (Nat.le_trans hlen hn2) hr hF hb fun H hS => hsp H a ns hlen hS
end K73
set_option Elab.async false
set_option linter.all false
set_option maxRecDepth 100000
set_option maxHeartbeats 4000000
open PySem PySem.W PySem.Calls PyProof.Rows
theorem PySem.Challenge.cw_walkshome_k73_whole_undo_restores_everyt_holds : PySem.Challenge.rw_walkshome_k73_whole_undo_restores_everyt.Holds := by
  w_on; o_law
  refine HandSHeadRun.head_any (r := OpenLaw.row PySem.Challenge.rw_walkshome_k73_whole_undo_restores_everyt) (q := view (OpenLaw.row PySem.Challenge.rw_walkshome_k73_whole_undo_restores_everyt).prog [68]) (H := K73.hkY) (ob := K73.ob) (M := 12000) (loose := K73.names) (d := HandSHeadRun.topDef (OpenLaw.row PySem.Challenge.rw_walkshome_k73_whole_undo_restores_everyt).prog 68) (kwd := []) K73.ob_eq
    (by kernel_rfl) (fun s => by kernel_rfl) K73.headRun (by kernel_rfl) (by kernel_rfl) (by kernel_rfl) (by rfl) (by first | assumption | decide +kernel) (by decide +kernel) ⟨rfl, rfl, rfl, rfl, rfl, by decide +kernel⟩ ?hw ?hc
  case hw => w_witness2
  case hc =>
    refine K73.law_end (l := PySem.Challenge.rw_walkshome_k73_whole_undo_restores_everyt) (n := 63) (k := 12) (x := "_law_script") rfl (by decide) (by kernel_rfl) ⟨rfl, by decide, by decide⟩ ?F
    intro w mg fa h Y G hmg0
    obtain ⟨K, KX, c, ex⟩ := Y
    have hmg : mg ("law" : PySem.Str) = some (.ref fa) := by
      have e : (HandSHeadRun.topDef (OpenLaw.row PySem.Challenge.rw_walkshome_k73_whole_undo_restores_everyt).prog 68).name = ("law" : PySem.Str) := by kernel_rfl
      rw [← e]
      exact hmg0
    obtain ⟨fd, hb, hF⟩ := K73.facts (P := (PySem.Challenge.rw_walkshome_k73_whole_undo_restores_everyt).prog) (w := w) KX G hmg c ex
    exact ⟨K, fd, K73.spLaw K, KX, hb, fun H a ns hl hS => ⟨a, ns, rfl, hS, hl, fun _ => rfl⟩, hF⟩
