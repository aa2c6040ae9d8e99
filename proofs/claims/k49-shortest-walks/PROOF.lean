import PyProof.Rows.All
import Wide.All
import OpenK.AllK
import Wide.FinOn
import KE.GoesEnum
import HandS.ForMost
import HandS.Walk
import HandS.DictComp
import PyProof.Rows.SetFrom
import HandS.SetKeys
import HandS.Strs
import KE.KDictDisplayH
import HandS.Dict
import HandS.SlotsOwn
import HandS.CallLocal
import KE.KStateDown
import HandS.ClsMeth
import HandS.Ends
import HandS.More
import HandS.Words
import HandS.WordsExc
import HandS.Defaults
import HandS.Head0
import HandS.Head1
import HandS.Head2
import HandS.HeadEnd
import HandS.HeadHook1
import HandS.HeadHook2
import PySem.Challenge.RW_pieceround_k49_shortest_walks_between_wh
import HandS.Text
import HandS.IsInst
import HandS.Star
import HandS.Style
import HandS.Conv
import HandS.TupAny
import HandS.Wide
import HandS.Flow
import HandS.StrSplit
import HandS.Steps
import HandS.Zip
import PyProof.Rows.StrMeet
import HandS.GenBody
import HandS.GenYield
import HandS.GenCall
import HandS.GenList
set_option Elab.async false
set_option maxRecDepth 100000
/-! The plain law, part 1: rounds on places, the search in layers. -/
namespace K49
abbrev Pl := List Nat
/-! ### rounds on places, as the program does them; k = true: upper -/
def lastP (p : Pl) : Nat := p.getLastD 0
def ixP (p : Pl) : Nat := p.idxOf (p.length - 1)
def upF (p : Pl) (i x : Nat) : Nat := if i = ixP p then lastP p + 1 else if lastP p < x then x + 1 else x
def stepU (p : Pl) : Pl := p.mapIdx (upF p)
def stepL (p : Pl) : Pl := p.take (ixP p + 1) ++ [lastP p] ++ (p.drop (ixP p + 1)).take (p.length - 1 - (ixP p + 1))
def next (p : Pl) (k : Bool) : Pl := if k then stepU p else stepL p
def run (p : Pl) (w : List Bool) : Pl := w.foldl next p
theorem run_append (p : Pl) (v w : List Bool) : run p (v ++ w) = run (run p v) w := by unfold run; rw [List.foldl_append]
theorem run_cons (p : Pl) (k : Bool) (w : List Bool) : run p (k :: w) = run (next p k) w := rfl
theorem run_nil (p : Pl) : run p [] = p := rfl

/-! ### the search in layers -/
abbrev Inf := Nat × Option (Bool × Pl)
abbrev Fd := List (Pl × Inf)
def keys (f : Fd) : List Pl := f.map (·.1)
def stp (d : Nat) (st : Fd × List Pl) (q : Pl × Bool) : Fd × List Pl :=
  if next q.1 q.2 ∈ keys st.1 then st else (st.1 ++ [(next q.1 q.2, d, some (q.2, q.1))], st.2 ++ [next q.1 q.2])
def prs (l : List Pl) : List (Pl × Bool) := l.flatMap fun u => [(u, true), (u, false)]
def lay (d : Nat) (f : Fd) (l : List Pl) : Fd × List Pl := (prs l).foldl (stp d) (f, [])
def G (s : Pl) : Nat → Fd × List Pl
  | 0 => ([(s, 0, none)], [s])
  | t + 1 => lay (t + 1) (G s t).1 (G s t).2

/-- what a layer's pairs leave -/
structure LayOk (d : Nat) (f : Fd) (ps : List (Pl × Bool)) (st : Fd × List Pl) : Prop where
  app : ∃ more : Fd, st.1 = f ++ more ∧ st.2 = more.map (·.1) ∧ ∀ e ∈ more, ∃ u k, (u, k) ∈ ps ∧ e = (next u k, d, some (k, u))
  nd : (keys st.1).Nodup
  all : ∀ u k, (u, k) ∈ ps → next u k ∈ keys st.1
theorem layOk_nil {d : Nat} {f : Fd} (nd : (keys f).Nodup) : LayOk d f [] (f, []) :=
  ⟨⟨[], by simp, rfl, by simp⟩, nd, by simp⟩
theorem layOk_stp {d : Nat} {f : Fd} {ps : List (Pl × Bool)} {st : Fd × List Pl} (h : LayOk d f ps st) (q : Pl × Bool) : LayOk d f (ps ++ [q]) (stp d st q) := by
  obtain ⟨⟨more, e1, e2, hm⟩, nd, all⟩ := h
  unfold stp
  by_cases hq : next q.1 q.2 ∈ keys st.1
  · rw [if_pos hq]
    refine ⟨⟨more, e1, e2, fun e he => ?_⟩, nd, fun u k huk => ?_⟩
    · obtain ⟨u, k, h1, h2⟩ := hm e he
      exact ⟨u, k, List.mem_append_left _ h1, h2⟩
    · rcases List.mem_append.mp huk with h | h
      · exact all u k h
      · rw [List.mem_singleton] at h
        rw [← h] at hq
        exact hq
  · rw [if_neg hq]
    refine ⟨⟨more ++ [(next q.1 q.2, d, some (q.2, q.1))], ?_, ?_, fun e he => ?_⟩, ?_, fun u k huk => ?_⟩
    · show st.1 ++ _ = _
      rw [e1, List.append_assoc]
    · show st.2 ++ _ = _
      rw [e2]; simp
    · rcases List.mem_append.mp he with h | h
      · obtain ⟨u, k, h1, h2⟩ := hm e h
        exact ⟨u, k, List.mem_append_left _ h1, h2⟩
      · rw [List.mem_singleton] at h
        exact ⟨q.1, q.2, List.mem_append_right _ (by simp), h⟩
    · show (keys (st.1 ++ [_])).Nodup
      unfold keys at *
      rw [List.map_append, List.nodup_append]
      refine ⟨nd, by simp, fun a ha b hb e => ?_⟩
      simp only [List.map_cons, List.map_nil, List.mem_singleton] at hb
      subst hb
      subst e
      exact hq ha
    · show next u k ∈ keys (st.1 ++ [_])
      unfold keys at *
      rw [List.map_append]
      rcases List.mem_append.mp huk with h | h
      · exact List.mem_append_left _ (all u k h)
      · rw [List.mem_singleton] at h
        rw [← h]
        exact List.mem_append_right _ (by simp)
theorem layOk_fold {d : Nat} {f : Fd} : ∀ (qs ps : List (Pl × Bool)) (st : Fd × List Pl), LayOk d f ps st → LayOk d f (ps ++ qs) (qs.foldl (stp d) st)
  | [], ps, st, h => by rw [List.append_nil]; exact h
  | q :: qs, ps, st, h => by
    have := layOk_fold qs (ps ++ [q]) (stp d st q) (layOk_stp h q)
    rw [List.append_assoc] at this
    exact this
theorem layOk_lay {d : Nat} {f : Fd} {l : List Pl} (nd : (keys f).Nodup) : LayOk d f (prs l) (lay d f l) := by
  have := layOk_fold (d := d) (f := f) (prs l) [] (f, []) (layOk_nil nd)
  exact this
theorem mem_prs {l : List Pl} {u : Pl} {k : Bool} : (u, k) ∈ prs l ↔ u ∈ l := by
  unfold prs
  rw [List.mem_flatMap]
  constructor
  · rintro ⟨a, ha, h⟩
    simp only [List.mem_cons, Prod.mk.injEq, List.not_mem_nil, or_false] at h
    rcases h with ⟨h, _⟩ | ⟨h, _⟩ <;> (rw [h]; exact ha)
  · intro h
    exact ⟨u, h, by cases k <;> simp⟩

/-- the state behind t layers -/
structure GOk (s : Pl) (t : Nat) (f : Fd) (l : List Pl) : Prop where
  nd : (keys f).Nodup
  src : ∀ e ∈ f, e = (s, 0, none) ∨ ∃ u k d i, e = (next u k, d + 1, some (k, u)) ∧ (u, d, i) ∈ f
  lay : ∀ b, b ∈ l ↔ ∃ i, (b, t, i) ∈ f
  go : ∀ u d i, (u, d, i) ∈ f → d < t → ∀ k, ∃ d' i', (next u k, d', i') ∈ f ∧ d' ≤ d + 1
  at_ : (s, 0, none) ∈ f
  le : ∀ b d i, (b, d, i) ∈ f → d ≤ t
theorem keys_mem {f : Fd} {b : Pl} : b ∈ keys f ↔ ∃ d i, (b, d, i) ∈ f := by
  unfold keys
  rw [List.mem_map]
  constructor
  · rintro ⟨⟨b', d, i⟩, h, e⟩
    cases e
    exact ⟨d, i, h⟩
  · rintro ⟨d, i, h⟩
    exact ⟨_, h, rfl⟩
theorem gOk (s : Pl) : ∀ t, GOk s t (G s t).1 (G s t).2
  | 0 => by
    refine ⟨by simp [G, keys], ?_, ?_, ?_, by simp [G], ?_⟩
    · intro e he; left; simpa [G] using he
    · intro b; simp [G]
    · intro u d i h hd; omega
    · intro b d i h; simp [G] at h; omega
  | t + 1 => by
    have ih := gOk s t
    have L := layOk_lay (d := t + 1) (f := (G s t).1) (l := (G s t).2) ih.nd
    obtain ⟨⟨more, e1, e2, hm⟩, nd, all⟩ := L
    have hf : (G s (t + 1)).1 = (G s t).1 ++ more := e1
    have hl : (G s (t + 1)).2 = more.map (·.1) := e2
    have nd' : (keys (G s (t + 1)).1).Nodup := nd
    have all' : ∀ u k, (u, k) ∈ prs (G s t).2 → next u k ∈ keys (G s (t + 1)).1 := all
    clear e1 e2 nd all
    rw [hf, hl] at *
    have hd : ∀ e ∈ more, e.2.1 = t + 1 := fun e he => by
      obtain ⟨u, k, _, h⟩ := hm e he
      rw [h]
    refine ⟨nd', fun e he => ?_, fun b => ?_, fun u d i h hd' k => ?_, List.mem_append_left _ ih.at_, fun b d i h => ?_⟩
    · rcases List.mem_append.mp he with h | h
      · rcases ih.src e h with h | ⟨u, k, d, i, h1, h2⟩
        · exact .inl h
        · exact .inr ⟨u, k, d, i, h1, List.mem_append_left _ h2⟩
      · obtain ⟨u, k, h1, h2⟩ := hm e h
        obtain ⟨i, hi⟩ := (ih.lay u).mp (mem_prs.mp h1)
        exact .inr ⟨u, k, t, i, h2, List.mem_append_left _ hi⟩
    · rw [List.mem_map]
      constructor
      · rintro ⟨⟨b', d, i⟩, h, e⟩
        have h0 := hd _ h
        simp only at e h0
        subst e
        subst h0
        exact ⟨i, List.mem_append_right _ h⟩
      · rintro ⟨i, h⟩
        rcases List.mem_append.mp h with h | h
        · have := ih.le _ _ _ h; omega
        · exact ⟨_, h, rfl⟩
    · rcases List.mem_append.mp h with h | h
      · by_cases hlt : d < t
        · obtain ⟨d', i', h1, h2⟩ := ih.go u d i h hlt k
          exact ⟨d', i', List.mem_append_left _ h1, h2⟩
        · have hdt : d = t := by have := ih.le _ _ _ h; omega
          subst hdt
          have h3 := all' u k (mem_prs.mpr ((ih.lay u).mpr ⟨i, h⟩))
          obtain ⟨d', i', h4⟩ := keys_mem.mp h3
          refine ⟨d', i', h4, ?_⟩
          rcases List.mem_append.mp h4 with h5 | h5
          · have := ih.le _ _ _ h5; omega
          · have := hd _ h5; simp only at this; omega
      · have := hd _ h; simp only at this; omega
    · rcases List.mem_append.mp h with h | h
      · have := ih.le _ _ _ h; omega
      · have := hd _ h; simp only at this; omega
theorem g_pre (s : Pl) (t : Nat) : ∃ more, (G s (t + 1)).1 = (G s t).1 ++ more ∧ (G s (t + 1)).2 = more.map (·.1) := by
  obtain ⟨⟨more, e1, e2, _⟩, _, _⟩ := layOk_lay (d := t + 1) (f := (G s t).1) (l := (G s t).2) (gOk s t).nd
  exact ⟨more, e1, e2⟩
theorem g_mono (s : Pl) (t : Nat) : ∀ j, ∃ more, (G s (t + j)).1 = (G s t).1 ++ more
  | 0 => ⟨[], by simp⟩
  | j + 1 => by
    obtain ⟨m1, h1⟩ := g_mono s t j
    obtain ⟨m2, h2, _⟩ := g_pre s (t + j)
    exact ⟨m1 ++ m2, by rw [← Nat.add_assoc, h2, h1, List.append_assoc]⟩
theorem g_sub {s : Pl} {t t' : Nat} (h : t ≤ t') {e : Pl × Inf} (he : e ∈ (G s t).1) : e ∈ (G s t').1 := by
  obtain ⟨m, hm⟩ := g_mono s t (t' - t)
  rw [show t + (t' - t) = t' by omega] at hm
  rw [hm]
  exact List.mem_append_left _ he
/-- an empty layer stays -/
theorem g_empty {s : Pl} {t : Nat} (h : (G s t).2 = []) : ∀ j, G s (t + j) = G s t
  | 0 => rfl
  | j + 1 => by
    have ih := g_empty h j
    show lay (t + j + 1) (G s (t + j)).1 (G s (t + j)).2 = _
    rw [ih, h]
    show ((G s t).1, []) = G s t
    rw [← h]
theorem g_one {f : Fd} (nd : (keys f).Nodup) {b : Pl} {x y : Inf} (hx : (b, x) ∈ f) (hy : (b, y) ∈ f) : x = y := by
  induction f with
  | nil => cases hx
  | cons e f ih =>
    unfold keys at nd
    rw [List.map_cons, List.nodup_cons] at nd
    rcases List.mem_cons.mp hx with h1 | h1
    · rcases List.mem_cons.mp hy with h2 | h2
      · rw [← h1] at h2
        exact (Prod.mk.inj h2).2.symm
      · refine absurd ?_ nd.1
        rw [← h1]
        exact List.mem_map.mpr ⟨_, h2, rfl⟩
    · rcases List.mem_cons.mp hy with h2 | h2
      · refine absurd ?_ nd.1
        rw [← h2]
        exact List.mem_map.mpr ⟨_, h1, rfl⟩
      · exact ih nd.2 h1 h2

/-! ### what the search tells of walks -/
/-- from depth d on: a walk of d rounds -/
theorem g_walk (s : Pl) (t : Nat) : ∀ d b i, (b, d, i) ∈ (G s t).1 → ∃ w : List Bool, w.length = d ∧ run s w = b := by
  intro d
  induction d with
  | zero =>
    intro b i h
    rcases (gOk s t).src _ h with e | ⟨u, k, d, i', e, _⟩
    · cases e
      exact ⟨[], rfl, rfl⟩
    · cases e
  | succ d ih =>
    intro b i h
    rcases (gOk s t).src _ h with e | ⟨u, k, d', i', e, hu⟩
    · cases e
    · cases e
      obtain ⟨w, h1, h2⟩ := ih u i' hu
      refine ⟨w ++ [k], by simp [h1], ?_⟩
      rw [run_append, h2]
      rfl
/-- a walk of at most t rounds is found, at its length at most -/
theorem g_found (s : Pl) (t : Nat) : ∀ w : List Bool, w.length ≤ t → ∃ d i, (run s w, d, i) ∈ (G s t).1 ∧ d ≤ w.length := by
  intro w
  generalize hn : w.length = n
  induction n generalizing w with
  | zero =>
    intro _
    have : w = [] := List.length_eq_zero_iff.mp hn
    subst this
    exact ⟨0, none, (gOk s t).at_, Nat.le_refl _⟩
  | succ n ih =>
    intro ht
    obtain ⟨v, k, rfl⟩ : ∃ v k, w = v ++ [k] := by
      have hne : w ≠ [] := by intro e; subst e; simp at hn
      exact ⟨w.dropLast, w.getLast hne, (List.dropLast_concat_getLast hne).symm⟩
    have hv : v.length = n := by simpa using hn
    obtain ⟨d, i, h1, h2⟩ := ih v hv (by omega)
    obtain ⟨d', i', h3, h4⟩ := (gOk s t).go _ d i h1 (by omega) k
    refine ⟨d', i', ?_, by omega⟩
    rw [run_append]
    exact h3
/-- when a layer is empty all that walks reach is there -/
theorem g_closed {s : Pl} {t : Nat} (h : (G s t).2 = []) (w : List Bool) : ∃ d i, (run s w, d, i) ∈ (G s t).1 ∧ d ≤ w.length := by
  have := g_found s (t + w.length) w (by omega)
  rw [g_empty h] at this
  exact this
end K49
set_option Elab.async false
set_option maxRecDepth 100000
/-! The plain law, part 2: the places of whole orders with two to five names; finite checks; walks. -/
namespace K49
/-- all lists of m numbers below n -/
def lists (n : Nat) : Nat → List Pl
  | 0 => [[]]
  | m + 1 => (List.range n).flatMap fun a => (lists n m).map (a :: ·)
theorem mem_lists {n : Nat} : ∀ {m : Nat} {p : Pl}, p.length = m → (∀ x ∈ p, x < n) → p ∈ lists n m
  | 0, p, h, _ => by
    have : p = [] := List.length_eq_zero_iff.mp h
    subst this
    simp [lists]
  | m + 1, [], h, _ => by simp at h
  | m + 1, a :: p, h, hx => by
    unfold lists
    rw [List.mem_flatMap]
    refine ⟨a, List.mem_range.mpr (hx a (by simp)), List.mem_map.mpr ⟨p, mem_lists (by simpa using h) fun x h => hx x (by simp [h]), rfl⟩⟩
/-- no stretch of the first k faces itself: by running greatest -/
def mx (p : Pl) : Nat := p.foldl max 0
def wholeB (p : Pl) : Bool := (List.range (p.length - 1)).all fun i => decide (i < mx (p.take (i + 1)))
def permB (p : Pl) : Bool := p.all (fun x => decide (x < p.length)) && decide p.Nodup
def goodB (p : Pl) : Bool := decide (2 ≤ p.length) && (permB p && wholeB p)
def Good (n : Nat) (p : Pl) : Prop := p.length = n ∧ n ≤ 5 ∧ goodB p = true
theorem Good.len {n : Nat} {p : Pl} (h : Good n p) : p.length = n := h.1
theorem Good.two {n : Nat} {p : Pl} (h : Good n p) : 2 ≤ n := by
  obtain ⟨h1, _, h3⟩ := h
  unfold goodB at h3
  simp only [Bool.and_eq_true, decide_eq_true_eq] at h3
  omega
theorem Good.perm {n : Nat} {p : Pl} (h : Good n p) : permB p = true := by
  obtain ⟨_, _, h3⟩ := h
  unfold goodB at h3
  simp only [Bool.and_eq_true] at h3
  exact h3.2.1
theorem permB_lt {p : Pl} (h : permB p = true) : ∀ x ∈ p, x < p.length := by
  unfold permB at h
  simp only [Bool.and_eq_true, List.all_eq_true, decide_eq_true_eq] at h
  exact h.1
theorem permB_nd {p : Pl} (h : permB p = true) : p.Nodup := by
  unfold permB at h
  simp only [Bool.and_eq_true, decide_eq_true_eq] at h
  exact h.2
theorem permB_mk {p : Pl} (h1 : ∀ x ∈ p, x < p.length) (h2 : p.Nodup) : permB p = true := by
  unfold permB
  simp only [Bool.and_eq_true, List.all_eq_true, decide_eq_true_eq]
  exact ⟨h1, h2⟩
def cls (n : Nat) : List Pl := (lists n n).filter goodB
theorem mem_cls {n : Nat} {p : Pl} (h : Good n p) : p ∈ cls n := by
  refine List.mem_filter.mpr ⟨mem_lists h.len ?_, h.2.2⟩
  have := permB_lt h.perm
  rw [h.len] at this
  exact this
/-- a check of all of them holds of each -/
theorem chk_all {f : Pl → Bool} (h2 : (cls 2).all f = true) (h3 : (cls 3).all f = true) (h4 : (cls 4).all f = true) (h5 : (cls 5).all f = true) {n : Nat} {p : Pl} (h : Good n p) : f p = true := by
  have hn := h.two
  have hn5 := h.2.1
  have hm := mem_cls h
  have : n = 2 ∨ n = 3 ∨ n = 4 ∨ n = 5 := by omega
  rcases this with e | e | e | e <;> subst e
  · exact List.all_eq_true.mp h2 p hm
  · exact List.all_eq_true.mp h3 p hm
  · exact List.all_eq_true.mp h4 p hm
  · exact List.all_eq_true.mp h5 p hm
def prm (n : Nat) : List Pl := (lists n n).filter permB
theorem chk_prm {f : Pl → Bool} (h2 : (prm 2).all f = true) (h3 : (prm 3).all f = true) (h4 : (prm 4).all f = true) (h5 : (prm 5).all f = true) {p : Pl} (h1 : 2 ≤ p.length) (h5' : p.length ≤ 5) (h : permB p = true) : f p = true := by
  have hm : p ∈ prm p.length := List.mem_filter.mpr ⟨mem_lists rfl (permB_lt h), h⟩
  have : p.length = 2 ∨ p.length = 3 ∨ p.length = 4 ∨ p.length = 5 := by omega
  rcases this with e | e | e | e <;> rw [e] at hm
  · exact List.all_eq_true.mp h2 p hm
  · exact List.all_eq_true.mp h3 p hm
  · exact List.all_eq_true.mp h4 p hm
  · exact List.all_eq_true.mp h5 p hm

/-! ### rounds keep whole places, and come back -/
def itk (k : Bool) (p : Pl) : Nat → Pl
  | 0 => p
  | m + 1 => itk k (next p k) m
def fNext (p : Pl) : Bool := [true, false].all fun k => decide ((next p k).length = p.length) && (goodB (next p k) && (List.range 6).any fun m => decide (itk k p (m + 1) = p))
theorem cls_next2 : (cls 2).all fNext = true := by decide +kernel
theorem cls_next3 : (cls 3).all fNext = true := by decide +kernel
theorem cls_next4 : (cls 4).all fNext = true := by decide +kernel
theorem cls_next5 : (cls 5).all fNext = true := by decide +kernel
theorem fNext_of {n : Nat} {p : Pl} (h : Good n p) (k : Bool) : (next p k).length = p.length ∧ goodB (next p k) = true ∧ ∃ m, itk k p (m + 1) = p := by
  have := chk_all cls_next2 cls_next3 cls_next4 cls_next5 h
  unfold fNext at this
  rw [List.all_eq_true] at this
  have := this k (by cases k <;> simp)
  simp only [Bool.and_eq_true, decide_eq_true_eq, List.any_eq_true] at this
  obtain ⟨h1, h2, m, _, h3⟩ := this
  exact ⟨h1, h2, m, h3⟩
theorem Good.next {n : Nat} {p : Pl} (h : Good n p) (k : Bool) : Good n (next p k) := by
  obtain ⟨h1, h2, _⟩ := fNext_of h k
  exact ⟨h1.trans h.len, h.2.1, h2⟩
theorem Good.run {n : Nat} : ∀ (w : List Bool) {p : Pl}, Good n p → Good n (run p w)
  | [], _, h => h
  | k :: w, p, h => by rw [run_cons]; exact Good.run w (h.next k)
theorem itk_run (k : Bool) : ∀ (m : Nat) (p : Pl), itk k p m = run p (List.replicate m k)
  | 0, p => rfl
  | m + 1, p => by rw [List.replicate_succ, run_cons]; exact itk_run k m (K49.next p k)
/-- back by a round -/
theorem back1 {n : Nat} {p : Pl} (h : Good n p) (k : Bool) : ∃ w, run (next p k) w = p := by
  obtain ⟨_, _, m, hm⟩ := fNext_of h k
  refine ⟨List.replicate m k, ?_⟩
  rw [← itk_run]
  exact hm
theorem back {n : Nat} : ∀ (w : List Bool) {p : Pl}, Good n p → ∃ v, run (run p w) v = p
  | [], p, _ => ⟨[], rfl⟩
  | k :: w, p, h => by
    obtain ⟨v, hv⟩ := back w (h.next k)
    obtain ⟨u, hu⟩ := back1 h k
    refine ⟨v ++ u, ?_⟩
    rw [run_cons, run_append, hv, hu]

/-! ### the layers end -/
theorem len_cls {n : Nat} (h2 : 2 ≤ n) (h5 : n ≤ 5) : (cls n).length ≤ 71 := by
  have : n = 2 ∨ n = 3 ∨ n = 4 ∨ n = 5 := by omega
  rcases this with e | e | e | e <;> subst e <;> decide +kernel
theorem key_good {n : Nat} {s : Pl} (h : Good n s) {t : Nat} {b : Pl} (hb : b ∈ keys (G s t).1) : Good n b := by
  obtain ⟨d, i, hd⟩ := keys_mem.mp hb
  obtain ⟨w, _, rfl⟩ := g_walk s t d b i hd
  exact h.run w
theorem found_len {n : Nat} {s : Pl} (h : Good n s) (t : Nat) : (G s t).1.length ≤ 71 := by
  have h1 : (keys (G s t).1).length ≤ (cls n).length := List.Nodup.length_le_of_subset (gOk s t).nd fun b hb => mem_cls (key_good h hb)
  have h2 : (keys (G s t).1).length = (G s t).1.length := List.length_map ..
  have := len_cls h.two h.2.1
  omega
theorem layer_ends {n : Nat} {s : Pl} (h : Good n s) : ∃ t, t ≤ 71 ∧ (G s t).2 = [] := by
  apply Classical.byContradiction
  intro hn
  have hne : ∀ t, t ≤ 71 → (G s t).2 ≠ [] := fun t ht e => hn ⟨t, ht, e⟩
  have grow : ∀ t, t ≤ 71 → t + 1 ≤ (G s t).1.length := by
    intro t
    induction t with
    | zero => intro _; simp [G]
    | succ t ih =>
      intro ht
      have := ih (by omega)
      obtain ⟨more, h1, h2⟩ := g_pre s t
      have h3 := hne (t + 1) ht
      rw [h2] at h3
      rw [h1, List.length_append]
      have : more ≠ [] := fun e => h3 (by rw [e]; rfl)
      have : 0 < more.length := List.length_pos_iff.mpr this
      omega
  have h1 := grow 71 (Nat.le_refl _)
  have h2 := found_len h 71
  omega

/-! ### the program's search, and its walk -/
def stopB (s g : Pl) (t : Nat) : Bool := (G s t).2.isEmpty || decide (g ∈ keys (G s t).1)
def T (s g : Pl) : Nat := ((List.range 100).find? (stopB s g)).getD 0
theorem T_ok {n : Nat} {s : Pl} (h : Good n s) (g : Pl) : stopB s g (T s g) = true ∧ T s g ≤ 71 ∧ ∀ t, t < T s g → stopB s g t = false := by
  obtain ⟨t, ht, e⟩ := layer_ends h
  have hs : stopB s g t = true := by unfold stopB; rw [e]; rfl
  cases q : (List.range 100).find? (stopB s g) with
  | none =>
    rw [List.find?_eq_none] at q
    exact absurd hs (by simpa using q t (List.mem_range.mpr (by omega)))
  | some i =>
    have e : T s g = i := by unfold T; rw [q]; rfl
    rw [e]
    have := List.find?_range_eq_some.mp q
    obtain ⟨h1, _, h3⟩ := this
    have h3' : ∀ j, j < i → stopB s g j = false := fun j hj => by simpa using h3 j hj
    refine ⟨h1, ?_, h3'⟩
    apply Classical.byContradiction
    intro hgt
    have := h3' t (by omega)
    rw [hs] at this
    cases this
def inf (f : Fd) (b : Pl) : Option Inf := (f.find? fun e => decide (e.1 = b)).map (·.2)
theorem inf_of {f : Fd} (nd : (keys f).Nodup) {b : Pl} {x : Inf} (h : (b, x) ∈ f) : inf f b = some x := by
  unfold inf
  cases q : f.find? fun e => decide (e.1 = b) with
  | none =>
    rw [List.find?_eq_none] at q
    exact absurd (by simp) (q _ h)
  | some e =>
    have h1 := List.find?_some q
    have h2 := List.mem_of_find?_eq_some q
    obtain ⟨b', y⟩ := e
    simp only [decide_eq_true_eq] at h1
    subst h1
    rw [g_one nd h h2]
    rfl
theorem inf_none {f : Fd} {b : Pl} (h : b ∉ keys f) : inf f b = none := by
  unfold inf
  cases q : f.find? fun e => decide (e.1 = b) with
  | none => rfl
  | some e =>
    have h1 := List.find?_some q
    have h2 := List.mem_of_find?_eq_some q
    simp only [decide_eq_true_eq] at h1
    exact absurd (List.mem_map.mpr ⟨e, h2, h1⟩) h
theorem inf_mem {f : Fd} {b : Pl} {x : Inf} (h : inf f b = some x) : (b, x) ∈ f := by
  unfold inf at h
  cases q : f.find? fun e => decide (e.1 = b) with
  | none => rw [q] at h; cases h
  | some e =>
    have h1 := List.find?_some q
    have h2 := List.mem_of_find?_eq_some q
    rw [q] at h
    obtain ⟨b', y⟩ := e
    simp only [decide_eq_true_eq] at h1
    subst h1
    have : y = x := Option.some.inj h
    subst this
    exact h2
/-- the kinds from the start to b -/
def chain (f : Fd) : Nat → Pl → List Bool
  | 0, _ => []
  | n + 1, b => match inf f b with
    | some (_, some (k, u)) => chain f n u ++ [k]
    | _ => []
theorem chain_ok (s : Pl) (t : Nat) : ∀ d b i, (b, d, i) ∈ (G s t).1 → (chain (G s t).1 d b).length = d ∧ run s (chain (G s t).1 d b) = b := by
  intro d
  induction d with
  | zero =>
    intro b i h
    rcases (gOk s t).src _ h with e | ⟨u, k, d, i', e, _⟩
    · cases e; exact ⟨rfl, rfl⟩
    · cases e
  | succ d ih =>
    intro b i h
    rcases (gOk s t).src _ h with e | ⟨u, k, d', i', e, hu⟩
    · cases e
    · cases e
      obtain ⟨h1, h2⟩ := ih u i' hu
      have e : inf (G s t).1 (next u k) = some (d + 1, some (k, u)) := inf_of (gOk s t).nd h
      have ec : chain (G s t).1 (d + 1) (next u k) = chain (G s t).1 d u ++ [k] := by
        show (match inf (G s t).1 (next u k) with
          | some (_, some (k, u)) => chain (G s t).1 d u ++ [k]
          | _ => []) = _
        rw [e]
      rw [ec, List.length_append, run_append, h2, h1]
      exact ⟨rfl, rfl⟩
/-- the program's search's find -/
def FP (s g : Pl) : Fd := (G s (T s g)).1
def walkB (s g : Pl) : Option (List Bool) := match inf (FP s g) g with
  | some (d, _) => some (chain (FP s g) d g)
  | none => none
/-- the law's search's answer -/
def distB (s g : Pl) : Option Nat := (inf (G s 400).1 g).map (·.1)
theorem g_last {n : Nat} {s : Pl} (h : Good n s) : ∃ t, t ≤ 71 ∧ (G s t).2 = [] ∧ G s 400 = G s t := by
  obtain ⟨t, ht, e⟩ := layer_ends h
  refine ⟨t, ht, e, ?_⟩
  have := g_empty e (400 - t)
  rw [show t + (400 - t) = 400 by omega] at this
  exact this
theorem dist_reach {n : Nat} {s g : Pl} (h : Good n s) : (distB s g).isSome = true ↔ ∃ w, run s w = g := by
  obtain ⟨t, _, e, e4⟩ := g_last h
  unfold distB
  rw [e4]
  constructor
  · intro hs
    cases q : inf (G s t).1 g with
    | none => rw [q] at hs; cases hs
    | some x =>
      obtain ⟨w, _, hw⟩ := g_walk s t x.1 g x.2 (inf_mem q)
      exact ⟨w, hw⟩
  · rintro ⟨w, rfl⟩
    obtain ⟨d, i, hd, _⟩ := g_closed e w
    rw [inf_of (gOk s t).nd hd]
    rfl
theorem dist_symm {n : Nat} {s g : Pl} (h : Good n s) (h' : Good n g) : (distB s g).isSome = (distB g s).isSome := by
  have a := dist_reach (g := g) h
  have b := dist_reach (g := s) h'
  have : (∃ w, run s w = g) ↔ ∃ w, run g w = s := by
    constructor
    · rintro ⟨w, rfl⟩; exact back w h
    · rintro ⟨w, rfl⟩; exact back w h'
  rw [Bool.eq_iff_iff, a, b, this]
theorem fp_sub {n : Nat} {s : Pl} (h : Good n s) (g : Pl) {e : Pl × Inf} (he : e ∈ FP s g) : e ∈ (G s 400).1 := g_sub (by have := (T_ok h g).2.1; omega) he
theorem walk_some {n : Nat} {s g : Pl} (h : Good n s) {w : List Bool} (hw : walkB s g = some w) : distB s g = some w.length ∧ run s w = g ∧ w.length ≤ 71 := by
  unfold walkB at hw
  cases q : inf (FP s g) g with
  | none => rw [q] at hw; cases hw
  | some x =>
    obtain ⟨d, i⟩ := x
    rw [q] at hw
    have e : chain (FP s g) d g = w := Option.some.inj hw
    have hm := inf_mem q
    obtain ⟨h1, h2⟩ := chain_ok s (T s g) d g i hm
    rw [show (G s (T s g)).1 = FP s g from rfl, e] at h1 h2
    refine ⟨?_, h2, ?_⟩
    · unfold distB
      rw [inf_of (gOk s 400).nd (fp_sub h g hm), h1]
      rfl
    · have h3 := (gOk s (T s g)).le _ _ _ hm
      have h4 := (T_ok h g).2.1
      omega
theorem walk_none {n : Nat} {s g : Pl} (h : Good n s) (hw : walkB s g = none) : distB s g = none := by
  unfold walkB at hw
  cases q : inf (FP s g) g with
  | some x => rw [q] at hw; cases hw
  | none =>
    obtain ⟨h1, h2, h3⟩ := T_ok h g
    have hk : g ∉ keys (FP s g) := fun hk => by
      obtain ⟨d, i, hd⟩ := keys_mem.mp hk
      have z := inf_of (f := FP s g) (gOk s (T s g)).nd hd
      rw [z] at q
      cases q
    have he : (G s (T s g)).2 = [] := by
      unfold stopB at h1
      rw [Bool.or_eq_true] at h1
      rcases h1 with h1 | h1
      · exact List.isEmpty_iff.mp h1
      · exact absurd (of_decide_eq_true h1) hk
    have e4 := g_empty he (400 - T s g)
    rw [show T s g + (400 - T s g) = 400 by omega] at e4
    unfold distB
    rw [e4]
    show (inf (FP s g) g).map _ = none
    rw [inf_none hk]
    rfl
theorem walk_dist {n : Nat} {s g : Pl} (h : Good n s) : (walkB s g).isSome = (distB s g).isSome := by
  cases q : walkB s g with
  | none => rw [walk_none h q]; rfl
  | some w => rw [(walk_some h q).1]; rfl
theorem walk_symm {n : Nat} {s g : Pl} (h : Good n s) (h' : Good n g) : (walkB s g).isSome = (walkB g s).isSome := by
  rw [walk_dist h, walk_dist h', dist_symm h h']
/-! ### the closing examples -/
theorem ex1 : walkB [1, 0] [2, 1, 0] = none := by decide +kernel
theorem ex2 : walkB [3, 2, 1, 0] [3, 1, 2, 0] = none := by decide +kernel
theorem ex3 : walkB [2, 1, 0] [2, 0, 1] = some [false] := by decide +kernel
theorem ex4 : walkB [1, 0] [1, 0] = some [] := by decide +kernel
end K49
set_option Elab.async false
set_option maxRecDepth 100000
set_option linter.all false
/-! The plain law, part 3: rows of names. -/
namespace K49
section
variable {α : Type} [DecidableEq α]
def placesOf (u l : List α) : Pl := u.map fun x => l.idxOf x
def pb (row : List α) (name other : α) : List α :=
  let left := row.filter fun x => decide (x ≠ name)
  left.take (left.idxOf other + 1) ++ [name] ++ left.drop (left.idxOf other + 1)
/-- the rows behind a round; above, below: the last names -/
def led (u l : List α) (k : Bool) (above below : α) : List α × List α := if k then (u, pb l below above) else (pb u above below, l)
structure RowsOk (u l : List α) : Prop where
  nd : u.Nodup
  pm : l.Perm u
theorem RowsOk.ndl {u l : List α} (h : RowsOk u l) : l.Nodup := h.pm.nodup_iff.mpr h.nd
theorem RowsOk.len {u l : List α} (h : RowsOk u l) : l.length = u.length := h.pm.length_eq
theorem RowsOk.mem {u l : List α} (h : RowsOk u l) {x : α} : x ∈ l ↔ x ∈ u := h.pm.mem_iff
def setEq (a b : List α) : Bool := a.all (fun x => decide (x ∈ b)) && b.all fun x => decide (x ∈ a)
/-- the law's look at rows -/
def lawWhole (u l : List α) : Bool := decide (1 < u.length) && (List.range (u.length - 1)).all fun i => !setEq (u.take (i + 1)) (l.take (i + 1))

/-! ### names by numbers -/
def Inj (g : α → Nat) (u : List α) : Prop := ∀ x ∈ u, ∀ y ∈ u, g x = g y → x = y
theorem idxOf_map {g : α → Nat} {u : List α} (hg : Inj g u) : ∀ (l : List α) (x : α), (∀ y ∈ l, y ∈ u) → x ∈ u → (l.map g).idxOf (g x) = l.idxOf x
  | [], x, _, _ => rfl
  | a :: l, x, hl, hx => by
    rw [List.map_cons, List.idxOf_cons, List.idxOf_cons]
    by_cases e : a = x
    · subst e; simp
    · have : ¬ g a = g x := fun q => e (hg a (hl a (by simp)) x hx q)
      rw [beq_eq_false_iff_ne.mpr e, beq_eq_false_iff_ne.mpr this]
      simp only [cond_false, Bool.false_eq_true, if_false]
      rw [idxOf_map hg l x (fun y h => hl y (by simp [h])) hx]
theorem filter_map {g : α → Nat} {u : List α} (hg : Inj g u) (n : α) (hn : n ∈ u) : ∀ (l : List α), (∀ y ∈ l, y ∈ u) → (l.map g).filter (fun x => decide (x ≠ g n)) = (l.filter fun x => decide (x ≠ n)).map g
  | [], _ => rfl
  | a :: l, hl => by
    have ih := filter_map hg n hn l (fun y h => hl y (by simp [h]))
    rw [List.map_cons, List.filter_cons, List.filter_cons]
    by_cases e : a = n
    · subst e
      rw [if_neg (by simp), if_neg (by simp)]
      exact ih
    · have : ¬ g a = g n := fun q => e (hg a (hl a (by simp)) n hn q)
      rw [if_pos (by simpa using this), if_pos (by simpa using e), List.map_cons, ih]
theorem pb_map {g : α → Nat} {u : List α} (hg : Inj g u) {row : List α} (hr : ∀ y ∈ row, y ∈ u) {n o : α} (hn : n ∈ u) (ho : o ∈ u) : pb (row.map g) (g n) (g o) = (pb row n o).map g := by
  unfold pb
  simp only [filter_map hg n hn row hr]
  rw [idxOf_map hg _ o (fun y h => hr y (List.mem_filter.mp h).1) ho]
  simp only [List.map_append, List.map_take, List.map_drop, List.map_cons, List.map_nil]
theorem places_map {g : α → Nat} {w : List α} (hg : Inj g w) {u l : List α} (hu : ∀ y ∈ u, y ∈ w) (hl : ∀ y ∈ l, y ∈ w) : placesOf (u.map g) (l.map g) = placesOf u l := by
  unfold placesOf
  rw [List.map_map]
  refine List.map_congr_left fun x hx => ?_
  exact idxOf_map hg l x hl (hu x hx)
theorem setEq_map {g : α → Nat} {w : List α} (hg : Inj g w) {u l : List α} (hu : ∀ y ∈ u, y ∈ w) (hl : ∀ y ∈ l, y ∈ w) : setEq (u.map g) (l.map g) = setEq u l := by
  have one : ∀ {a b : List α}, (∀ y ∈ a, y ∈ w) → (∀ y ∈ b, y ∈ w) → ((a.map g).all fun x => decide (x ∈ b.map g)) = a.all fun x => decide (x ∈ b) := by
    intro a b ha hb
    rw [List.all_map]
    rw [Bool.eq_iff_iff, List.all_eq_true, List.all_eq_true]
    constructor
    · intro h x hx
      have := h x hx
      simp only [Function.comp, decide_eq_true_eq, List.mem_map] at this ⊢
      obtain ⟨y, h1, h2⟩ := this
      have := hg y (hb y h1) x (ha x hx) h2
      rw [← this]; exact h1
    · intro h x hx
      have := h x hx
      simp only [Function.comp, decide_eq_true_eq, List.mem_map] at this ⊢
      exact ⟨x, this, rfl⟩
  unfold setEq
  rw [one hu hl, one hl hu]
theorem lawWhole_map {g : α → Nat} {w : List α} (hg : Inj g w) {u l : List α} (hu : ∀ y ∈ u, y ∈ w) (hl : ∀ y ∈ l, y ∈ w) : lawWhole (u.map g) (l.map g) = lawWhole u l := by
  unfold lawWhole
  rw [List.length_map]
  congr 1
  refine congrArg (List.all _) (funext fun i => ?_)
  rw [← List.map_take, ← List.map_take, setEq_map hg (fun y h => hu y (List.mem_of_mem_take h)) (fun y h => hl y (List.mem_of_mem_take h))]
/-- by a row's own places -/
theorem inj_own (u : List α) : Inj (fun x => u.idxOf x) u := fun x hx y hy e => by
  have h1 := List.getElem_idxOf (List.idxOf_lt_length_of_mem hx)
  have h2 := List.getElem_idxOf (List.idxOf_lt_length_of_mem hy)
  rw [← h1, ← h2]
  simp only [show u.idxOf x = u.idxOf y from e]
theorem map_own {u : List α} (nd : u.Nodup) : u.map (fun x => u.idxOf x) = List.range u.length := by
  refine List.ext_getElem (by simp) fun i h1 h2 => ?_
  rw [List.getElem_map, List.getElem_range]
  exact nd.idxOf_getElem i (by simpa using h1)
theorem nodup_map_inj {g : α → Nat} {w : List α} (hg : Inj g w) : ∀ {l : List α}, (∀ y ∈ l, y ∈ w) → l.Nodup → (l.map g).Nodup
  | [], _, _ => by simp
  | a :: l, hl, nd => by
    rw [List.nodup_cons] at nd
    rw [List.map_cons, List.nodup_cons]
    refine ⟨fun h => ?_, nodup_map_inj hg (fun y h => hl y (by simp [h])) nd.2⟩
    obtain ⟨y, h1, h2⟩ := List.mem_map.mp h
    have := hg y (hl y (by simp [h1])) a (hl a (by simp)) h2
    subst this
    exact nd.1 h1
theorem own_perm {u l : List α} (h : RowsOk u l) : permB (l.map fun x => u.idxOf x) = true := by
  refine permB_mk (fun x hx => ?_) (nodup_map_inj (inj_own u) (fun y hy => h.mem.mp hy) h.ndl)
  obtain ⟨y, h1, rfl⟩ := List.mem_map.mp hx
  rw [List.length_map, h.len]
  exact List.idxOf_lt_length_of_mem (h.mem.mp h1)
theorem places_own {u l : List α} (h : RowsOk u l) : placesOf (List.range u.length) (l.map fun x => u.idxOf x) = placesOf u l := by
  rw [← map_own h.nd]
  exact places_map (inj_own u) (fun y hy => hy) (fun y hy => h.mem.mp hy)
end

/-! ### finite checks over rows of numbers -/
def fLed (a : Pl) : Bool := !wholeB (placesOf (List.range a.length) a) || [true, false].all fun k =>
  let r := led (List.range a.length) a k (a.length - 1) (a.getLastD 0)
  permB r.1 && (permB r.2 && (decide (r.1.length = a.length) && (decide (r.2.length = a.length) && decide (placesOf r.1 r.2 = next (placesOf (List.range a.length) a) k))))
theorem fLed2 : (prm 2).all fLed = true := by decide +kernel
theorem fLed3 : (prm 3).all fLed = true := by decide +kernel
theorem fLed4 : (prm 4).all fLed = true := by decide +kernel
theorem fLed5 : (prm 5).all fLed = true := by decide +kernel
def fWhole (a : Pl) : Bool := permB (placesOf (List.range a.length) a) && (decide (lawWhole (List.range a.length) a = wholeB (placesOf (List.range a.length) a)))
theorem fWhole2 : (prm 2).all fWhole = true := by decide +kernel
theorem fWhole3 : (prm 3).all fWhole = true := by decide +kernel
theorem fWhole4 : (prm 4).all fWhole = true := by decide +kernel
theorem fWhole5 : (prm 5).all fWhole = true := by decide +kernel
section
variable {α : Type} [DecidableEq α]
theorem places_len (u l : List α) : (placesOf u l).length = u.length := List.length_map ..
theorem fWhole_of {u l : List α} (h : RowsOk u l) (h2 : 2 ≤ u.length) (h5 : u.length ≤ 5) : permB (placesOf u l) = true ∧ lawWhole u l = wholeB (placesOf u l) := by
  have hl : (l.map fun x => u.idxOf x).length = u.length := by rw [List.length_map, h.len]
  have := chk_prm fWhole2 fWhole3 fWhole4 fWhole5 (p := l.map fun x => u.idxOf x) (by omega) (by omega) (own_perm h)
  unfold fWhole at this
  rw [hl, places_own h] at this
  simp only [Bool.and_eq_true, decide_eq_true_eq] at this
  refine ⟨this.1, ?_⟩
  rw [← this.2, ← map_own h.nd]
  exact (lawWhole_map (inj_own u) (fun y hy => hy) (fun y hy => h.mem.mp hy)).symm
/-- rows that the law finds whole -/
theorem good_of_law {u l : List α} (h : RowsOk u l) (h2 : 2 ≤ u.length) (h5 : u.length ≤ 5) (hw : lawWhole u l = true) : Good u.length (placesOf u l) := by
  obtain ⟨h1, h3⟩ := fWhole_of h h2 h5
  refine ⟨places_len u l, h5, ?_⟩
  unfold goodB
  rw [places_len]
  simp only [Bool.and_eq_true, decide_eq_true_eq]
  exact ⟨h2, h1, h3.symm.trans hw⟩
theorem perm_of_nums {r a : Pl} (h1 : permB r = true) (h2 : r.length = a.length) (h3 : permB a = true) : r.Perm a := by
  refine (List.perm_ext_iff_of_nodup (permB_nd h1) (permB_nd h3)).mpr ?_
  have full : ∀ {p : Pl}, permB p = true → ∀ x, x ∈ p ↔ x < p.length := by
    intro p hp x
    refine ⟨permB_lt hp x, fun hx => ?_⟩
    have hsub : p ⊆ List.range p.length := fun y hy => List.mem_range.mpr (permB_lt hp y hy)
    apply Classical.byContradiction
    intro hn
    have : (x :: p).length ≤ (List.range p.length).length := List.Nodup.length_le_of_subset (List.nodup_cons.mpr ⟨hn, permB_nd hp⟩) (by
      intro y hy
      rcases List.mem_cons.mp hy with e | e
      · rw [e]; exact List.mem_range.mpr hx
      · exact hsub e)
    simp at this
    omega
  intro x
  rw [full h1, full h3, h2]
theorem perm_of_map {g : α → Nat} {w : List α} (hg : Inj g w) {a b : List α} (ha : ∀ y ∈ a, y ∈ w) (hb : ∀ y ∈ b, y ∈ w) (hn : (b.map g).Nodup) (h : (a.map g).Perm (b.map g)) : a.Perm b := by
  have of_ : ∀ {l : List α}, (l.map g).Nodup → l.Nodup := fun {l} hl => (List.pairwise_map.mp hl).imp fun {x y} q e => q (congrArg g e)
  have nb : b.Nodup := of_ hn
  have na : a.Nodup := of_ (h.nodup_iff.mpr hn)
  refine (List.perm_ext_iff_of_nodup na nb).mpr fun x => ?_
  constructor
  · intro hx
    obtain ⟨y, h1, h2⟩ := List.mem_map.mp (h.mem_iff.mp (List.mem_map.mpr ⟨x, hx, rfl⟩))
    have := hg y (hb y h1) x (ha x hx) h2
    rw [← this]; exact h1
  · intro hx
    obtain ⟨y, h1, h2⟩ := List.mem_map.mp (h.mem_iff.mpr (List.mem_map.mpr ⟨x, hx, rfl⟩))
    have := hg y (ha y h1) x (hb x hx) h2
    rw [← this]; exact h1
theorem pb_sub {row : List α} {n o : α} {w : List α} (hr : ∀ y ∈ row, y ∈ w) (hn : n ∈ w) : ∀ y ∈ pb row n o, y ∈ w := by
  intro y hy
  unfold pb at hy
  simp only [List.mem_append, List.mem_singleton] at hy
  rcases hy with (h | h) | h
  · exact hr y (List.mem_filter.mp (List.mem_of_mem_take h)).1
  · rw [h]; exact hn
  · exact hr y (List.mem_filter.mp (List.mem_of_mem_drop h)).1
/-- a round of whole rows -/
theorem led_ok {u l : List α} {n : Nat} (h : RowsOk u l) (hp : Good n (placesOf u l)) (k : Bool) {ab be : α} (ha : u.getLast? = some ab) (hb : l.getLast? = some be) :
    RowsOk (led u l k ab be).1 (led u l k ab be).2 ∧ placesOf (led u l k ab be).1 (led u l k ab be).2 = next (placesOf u l) k ∧ (led u l k ab be).1.Perm u := by
  have hn : u.length = n := (places_len u l).symm.trans hp.len
  have h2 : 2 ≤ u.length := by have := hp.two; omega
  have h5 : u.length ≤ 5 := by have := hp.2.1; omega
  have hl : (l.map fun x => u.idxOf x).length = u.length := by rw [List.length_map, h.len]
  have hc := chk_prm fLed2 fLed3 fLed4 fLed5 (p := l.map fun x => u.idxOf x) (by omega) (by omega) (own_perm h)
  unfold fLed at hc
  rw [hl, places_own h] at hc
  have hw : wholeB (placesOf u l) = true := by
    have := hp.2.2
    unfold goodB at this
    simp only [Bool.and_eq_true] at this
    exact this.2.2
  rw [hw] at hc
  simp only [Bool.not_true, Bool.false_or, List.all_eq_true] at hc
  have hc := hc k (by cases k <;> simp)
  have mab : ab ∈ u := List.mem_of_getLast? ha
  have mbe : be ∈ u := h.mem.mp (List.mem_of_getLast? hb)
  have eab : u.idxOf ab = u.length - 1 := by
    have hlast : u[u.length - 1]? = some ab := by rw [← ha, List.getLast?_eq_getElem?]
    obtain ⟨hlt, e⟩ := List.getElem?_eq_some_iff.mp hlast
    rw [← e]
    exact h.nd.idxOf_getElem _ hlt
  have ebe : (l.map fun x => u.idxOf x).getLastD 0 = u.idxOf be := by
    rw [List.getLastD_eq_getLast?, List.getLast?_map, hb]
    rfl
  have em : led (List.range u.length) (l.map fun x => u.idxOf x) k (u.length - 1) ((l.map fun x => u.idxOf x).getLastD 0) = ((led u l k ab be).1.map (fun x => u.idxOf x), (led u l k ab be).2.map fun x => u.idxOf x) := by
    rw [ebe, ← eab, ← map_own h.nd]
    unfold led
    cases k
    · simp only [Bool.false_eq_true, if_false]
      rw [pb_map (inj_own u) (fun y hy => hy) mab mbe]
    · simp only [if_true]
      rw [pb_map (inj_own u) (fun y hy => h.mem.mp hy) mbe mab]
  have s1 : ∀ y ∈ (led u l k ab be).1, y ∈ u := by
    unfold led
    cases k
    · exact pb_sub (fun y hy => hy) mab
    · exact fun y hy => hy
  have s2 : ∀ y ∈ (led u l k ab be).2, y ∈ u := by
    unfold led
    cases k
    · exact fun y hy => h.mem.mp hy
    · exact pb_sub (fun y hy => h.mem.mp hy) mbe
  simp only [em, Bool.and_eq_true, decide_eq_true_eq] at hc
  obtain ⟨c1, c2, c3, c4, c5⟩ := hc
  rw [places_map (inj_own u) s1 s2] at c5
  have pr : permB (u.map fun x => u.idxOf x) = true := own_perm ⟨h.nd, List.Perm.refl u⟩
  have p1 : (led u l k ab be).1.Perm u := perm_of_map (inj_own u) s1 (fun y hy => hy) (permB_nd pr) (perm_of_nums c1 (by rw [c3, List.length_map]) pr)
  have p2 : (led u l k ab be).2.Perm u := perm_of_map (inj_own u) s2 (fun y hy => hy) (permB_nd pr) (perm_of_nums c2 (by rw [c4, List.length_map]) pr)
  exact ⟨⟨p1.nodup_iff.mpr h.nd, p2.trans p1.symm⟩, c5, p1⟩
end
/-- a row and it backwards -/
theorem good_rev {α : Type} [DecidableEq α] {u : List α} (nd : u.Nodup) (h2 : 2 ≤ u.length) (h5 : u.length ≤ 5) : RowsOk u u.reverse ∧ Good u.length (placesOf u u.reverse) := by
  have h : RowsOk u u.reverse := ⟨nd, List.reverse_perm u⟩
  refine ⟨h, ?_⟩
  have e := places_own h
  rw [List.map_reverse, map_own nd] at e
  have hg : goodB (placesOf (List.range u.length) (List.range u.length).reverse) = true := by
    have : u.length = 2 ∨ u.length = 3 ∨ u.length = 4 ∨ u.length = 5 := by omega
    rcases this with q | q | q | q <;> rw [q] <;> decide +kernel
  rw [e] at hg
  exact ⟨places_len _ _, h5, hg⟩
end K49
set_option Elab.async false
set_option maxRecDepth 100000
set_option linter.all false
/-! The plain law, part 4: what the program's and the law's loops over places give. -/
namespace K49
/-! ### block_ends -/
def beF (st : List Nat × Int) (e : Nat × Nat) : List Nat × Int :=
  let m : Int := if (e.1 : Int) > st.2 then (e.1 : Int) else st.2
  (if m = (e.2 : Int) then st.1 ++ [e.2 + 1] else st.1, m)
def be (p : Pl) : List Nat := (p.zipIdx.foldl beF ([], -1)).1
/-! ### are_whole_rows: the running greatest of the first i places -/
def gr (p : Pl) (i : Nat) : Int := (p.take i).foldl (fun (m : Int) (x : Nat) => if (x : Int) > m then (x : Int) else m) (-1)
theorem gr_succ {p : Pl} {i x : Nat} (h : p[i]? = some x) : gr p (i + 1) = if (x : Int) > gr p i then (x : Int) else gr p i := by
  unfold gr
  rw [List.take_add_one, h, Option.toList_some, List.foldl_append]
  rfl
theorem gr_zero (p : Pl) : gr p 0 = -1 := by unfold gr; rw [List.take_zero]; rfl
theorem be_take {p : Pl} {i x : Nat} (h : p[i]? = some x) : (p.zipIdx.take (i + 1)).foldl beF ([], -1) = beF ((p.zipIdx.take i).foldl beF ([], -1)) (x, i) := by
  have e : p.zipIdx[i]? = some (x, i) := by rw [List.getElem?_zipIdx, h]; simp
  rw [List.take_add_one, e, Option.toList_some, List.foldl_append]
  rfl
/-! ### the law's moved places -/
def lawLower (p : Pl) : Pl := p.zipIdx.foldl (fun l e => l.set e.1 e.2) (List.replicate p.length 0)
def lawLowerTo (p : Pl) (i : Nat) : Pl := (p.zipIdx.take i).foldl (fun l e => l.set e.1 e.2) (List.replicate p.length 0)
theorem lawLowerTo_zero (p : Pl) : lawLowerTo p 0 = List.replicate p.length 0 := by unfold lawLowerTo; rw [List.take_zero]; rfl
theorem lawLowerTo_succ {p : Pl} {i x : Nat} (h : p[i]? = some x) : lawLowerTo p (i + 1) = (lawLowerTo p i).set x i := by
  have e : p.zipIdx[i]? = some (x, i) := by rw [List.getElem?_zipIdx, h]; simp
  unfold lawLowerTo
  rw [List.take_add_one, e, Option.toList_some, List.foldl_append]
  rfl
theorem lawLowerTo_len (p : Pl) : ∀ i, (lawLowerTo p i).length = p.length := by
  intro i
  unfold lawLowerTo
  generalize p.zipIdx.take i = l
  have : ∀ (l : List (Nat × Nat)) (q : Pl), (l.foldl (fun l e => l.set e.1 e.2) q).length = q.length := by
    intro l
    induction l with
    | nil => intro q; rfl
    | cons e l ih => intro q; rw [List.foldl_cons, ih, List.length_set]
  rw [this, List.length_replicate]
theorem lawLowerTo_all (p : Pl) : lawLowerTo p p.length = lawLower p := by
  unfold lawLowerTo lawLower
  rw [List.take_of_length_le (by rw [List.length_zipIdx]; exact Nat.le_refl _)]
/-- put in at a place -/
def insP (l : Pl) (i x : Nat) : Pl := l.take i ++ [x] ++ l.drop i
def lawU (p : Pl) (k : Bool) : Pl :=
  let u := List.range p.length; let l := lawLower p
  if k then u else insP u.dropLast (u.dropLast.idxOf (l.getLastD 0) + 1) (u.getLastD 0)
def lawL (p : Pl) (k : Bool) : Pl :=
  let u := List.range p.length; let l := lawLower p
  if k then insP l.dropLast (l.dropLast.idxOf (u.getLastD 0) + 1) (l.getLastD 0) else l
def lawMoved (p : Pl) (k : Bool) : Pl := (lawU p k).map fun x => (lawL p k).idxOf x
/-- all that the loops ask of places -/
def fLoop (p : Pl) : Bool :=
  decide ((be p).length = 1) && ((List.range (p.length - 1)).all (fun i => decide (gr p (i + 1) ≠ (i : Int))) &&
  ([true, false].all fun k => decide (lawMoved p k = next p k) && ((lawU p k).all (fun x => decide (x ∈ lawL p k)) &&
    (decide ((List.range p.length).getLastD 0 ∈ (lawLower p).dropLast) && decide ((lawLower p).getLastD 0 ∈ (List.range p.length).dropLast)))) && decide (p.length - 1 ∈ p))
theorem fLoop2 : (cls 2).all fLoop = true := by decide +kernel
theorem fLoop3 : (cls 3).all fLoop = true := by decide +kernel
theorem fLoop4 : (cls 4).all fLoop = true := by decide +kernel
theorem fLoop5 : (cls 5).all fLoop = true := by decide +kernel
structure LoopOk (p : Pl) : Prop where
  be1 : (be p).length = 1
  gr1 : ∀ i, i < p.length - 1 → gr p (i + 1) ≠ (i : Int)
  moved : ∀ k, lawMoved p k = next p k
  there : ∀ k, ∀ x ∈ lawU p k, x ∈ lawL p k
  inL : (List.range p.length).getLastD 0 ∈ (lawLower p).dropLast
  inU : (lawLower p).getLastD 0 ∈ (List.range p.length).dropLast
  top : p.length - 1 ∈ p
theorem Good.loop {n : Nat} {p : Pl} (h : Good n p) : LoopOk p := by
  have hc := chk_all fLoop2 fLoop3 fLoop4 fLoop5 h
  unfold fLoop at hc
  simp only [Bool.and_eq_true, decide_eq_true_eq, List.all_eq_true, List.mem_range] at hc
  obtain ⟨h1, ⟨h2, h3⟩, h4⟩ := hc
  have k1 := fun k : Bool => h3 k (by cases k <;> simp)
  exact ⟨h1, h2, fun k => (k1 k).1, fun k => (k1 k).2.1, (k1 true).2.2.1, (k1 true).2.2.2, h4⟩
end K49
set_option Elab.async false
set_option linter.all false
set_option maxRecDepth 100000
set_option maxHeartbeats 4000000
/-! Own rules 1: enumerate of a tuple, zip of a tuple and a list, in loops and comprehensions. -/
namespace R49
open PySem PySem.Spec PyProof.Rows L2

/-! ### an iterator that hands out new tuples -/
def ItT (n : Nat) (Gd : Hp → Prop) (Yt : Nat → List V → Prop) : It :=
  ⟨fun i H => i < n ∧ Gd H, fun i H v H' => ∃ T xs, v = .ref T ∧ H T = none ∧ H' = upd H T (.tup xs) ∧ Yt i xs, fun i H => i = n ∧ Gd H⟩
theorem walk_T {n : Nat} {Gd : Hp → Prop} {Yt : Nat → List V → Prop} : Walk (ItT n Gd Yt) n Gd (fun i H v H' => ∃ T xs, v = .ref T ∧ H T = none ∧ H' = upd H T (.tup xs) ∧ Yt i xs) :=
  ⟨fun i H hi g => ⟨hi, g⟩, fun H g => ⟨rfl, g⟩, fun i H v H' _ _ y => y⟩
theorem turn_ofT {P : Program} {w : World} {K : PySem.W.Frag} {elts : List Expr} {kk : Nat} {tpos : Pos} {I : Addr} {own wr : List Addr} {n : Nat} {tn : Nat → Heap → Prop} {Gd : Hp → Prop} {Yt : Nat → List V → Prop}
    (hI : I ∈ own) (hw : ∀ b ∈ wr, b ∈ own) (obj : ∀ i h, tn i h → ∀ b ∈ own, ∃ o, h.get? b = some o ∧ ∀ v, o.data ≠ .cell v)
    (keep : ∀ i h h', tn i h → (∀ b ∈ own, ∀ o, h.get? b = some o → h'.get? b = some o) → tn i h')
    (self : ∀ (A : Around) (i : Nat) (s : Shared) (Q : Value → Shared → Prop) (E : Value → Shared → Prop), tn i s.heap → Q (.ref I) s → wpAny (model P w) A (pyIter (.ref I)) Q E s)
    (W : ∀ (X : Cx), X.prog = P → X.w = w → X.K = K → X.calm = true → ∀ (i : Nat) (pins : List (Addr × Obj)) (s : Shared) (σ : L2.St) (H : Hp), Inv X pins σ H s → Gd H → tn i s.heap → i ≤ n →
      ∃ (fp : List Addr) (Pt : Nat → Array Value → Prop) (St : Nat → Heap → Prop) (Mid : Nat → Addr → Heap → Prop), WalksT P w X.A I fp wr n Pt St Mid ∧ St i s.heap ∧ (∀ j h, St j h → tn j h) ∧
        ∀ vals, Pt i vals → ∃ xs : List V, xs.length ≤ 2 ∧ Vals xs vals.toList ∧ Yt i xs) :
    Turn P w K (.Tuple elts kk tpos) (ItT n Gd Yt) own I tn where
  mem := hI
  obj := obj
  keep := keep
  item := by
    intro X hP hw' hK hc i pins s σ H E I0 hf st hg
    obtain ⟨hin, hG⟩ := hg
    obtain ⟨fp, Pt, St, Mid, Wk, hst, hb, hpt⟩ := W X hP hw' hK hc i pins s σ H I0 hG st (Nat.le_of_lt hin)
    refine Wk.item i s _ E hin hst fun T vals h' tk hPt hT hIs hM hk => ?_
    refine ⟨.ref T, rfl, Wk.go elts kk tpos i T { s with heap := h', toks := tk } _ E hM fun h'' hst' hk' => ?_⟩
    obtain ⟨xs, hl, rv, hy⟩ := hpt vals hPt
    have hT2 : h''.IsTuple T vals := hIs.at fun o e => hk' T o (Wk.apart i T h' hM) e
    have hn : H T = none := I0.hok.fresh hT
    have new : ObjOk X.prog X.w (upd H T (.tup xs)) h'' T (.tup xs) := by
      refine ⟨Nat.le_trans hl (by decide), vals.toList, rv, ?_⟩
      have : vals.toList.toArray = vals := by simp
      rw [this]
      exact hT2
    have I1 : Inv X pins σ (upd H T (.tup xs)) { s with heap := h'', toks := tk } :=
      I0.turnedNew (ch := wr) (fun b ob hb q => hk' b ob hb (hk b ob hb q)) (fun b hb => hf b (hw b hb)) hT new
    refine ⟨.ref T, _, I1, rfl, ⟨T, xs, rfl, hn, rfl, hy⟩, hb _ _ hst', fun b hbo => ?_⟩
    obtain ⟨o, ho, _⟩ := obj i s.heap st b hbo
    rw [upd_ne (Nat.ne_of_lt (Nat.lt_of_lt_of_le (Heap.lt_size ho) hT))]
    exact (hf b hbo).1
  done := by
    intro X hP hw' hK hc i pins s σ H E I0 hf st hg
    obtain ⟨hin, hG⟩ := hg
    subst hin
    obtain ⟨fp, Pt, St, Mid, Wk, hst, hb, hpt⟩ := W X hP hw' hK hc _ pins s σ H I0 hG st (Nat.le_refl _)
    exact Wk.done s _ E hst fun h' tk hk => ⟨rfl, I0.turnedL (t' := tk) (ch := wr) hk fun b hbw => hf b (hw b hbw)⟩
  self := self

/-! ### enumerate(v), one argument -/
set_option maxHeartbeats 4000000 in
theorem meets_enumerate_new1 {v : Value} {o : Obj} {Hh : Heap → Prop} (B : Begins v o Hh) :
    Meets (Builtin.«enumerate.__new__» ⟨[.type "enumerate", v], []⟩) (fun _ R s => Hh s.heap ∧
      R (.ok (.ret (.ref (s.heap.push o).objs.size))) { s with heap := (s.heap.push o).push { cls := .type "enumerate", data := .fields #[.none, .bool false, .ref s.heap.objs.size, rawInt 0, .none, .none] } }) :=
  .of_wp fun prog w A R s h => by
    obtain ⟨hp, g, d, tk, os⟩ := s; obtain ⟨h1, h⟩ := h
    have hsub := sub_enumerate
    have q1 : ∀ {A' : Around} {E : Value → Shared → Prop} {Q : Value → Shared → Prop}, Q (.ref hp.objs.size) ⟨hp.push o, g, d, tk, os⟩ → wpAny (model prog w) A' (pyIter v) Q E ⟨hp, g, d, tk, os⟩ :=
      fun q => B.iter prog w _ _ ⟨hp, g, d, tk, os⟩ _ h1 q
    wp_walk using q1
    refine wpAny_stack_any fun st => wpAny_pure ?_
    split
    · rename_i c _ _ _ _ _
      cases (c == Value.type "enumerate")
      · wp_walk using q1
        exact ⟨_, rfl, h⟩
      · wp_walk using q1
        exact ⟨_, rfl, h⟩
    · wp_walk using q1
      exact ⟨_, rfl, h⟩
section
variable {prog : Program} {w : World} {A : Around} {E : Value → Shared → Prop} {s : Shared}
theorem enum_begins1 {v : Value} {o : Obj} {Hh : Heap → Prop} {Q : Value → Shared → Prop} (B : Begins v o Hh) (h1 : Hh s.heap)
    (h : ∀ h', IsEnum h' (s.heap.objs.size + 1) s.heap.objs.size 0 .none → h'.get? s.heap.objs.size = some o → h'.objs.size = s.heap.objs.size + 2 →
      (∀ b o, s.heap.get? b = some o → h'.get? b = some o) → Q (.ref (s.heap.objs.size + 1)) { s with heap := h' }) :
    wpAny (model prog w) A (call (.type "enumerate") [v]) Q E s := by
  refine callType_new F.called_enumerate (by decide) (F.typeCall_enumerate_1 _) (F.newCall_enumerate_1 _) (fun obj => F.args_object_init_2 obj _) F.entry_enumerate_new
    (meets_enumerate_new1 B) ⟨h1, ?_⟩
  have hz : (s.heap.push o).objs.size = s.heap.objs.size + 1 := Heap.size_push ..
  show _ ∧ _
  rw [hz]
  have he : IsEnum ((s.heap.push o).push { cls := .type "enumerate", data := .fields #[.none, .bool false, .ref s.heap.objs.size, rawInt 0, .none, .none] }) (s.heap.objs.size + 1) s.heap.objs.size 0 .none := by
    have := Heap.get?_push_size (s.heap.push o) (o := { cls := .type "enumerate", data := .fields #[.none, .bool false, .ref s.heap.objs.size, rawInt 0, .none, .none] }) rfl
    rw [hz] at this; exact this
  refine ⟨⟨_, he, rfl⟩, h _ he (Heap.get?_push_of_some _ (Heap.get?_push_size _ B.free)) (by rw [Heap.size_push, hz]) fun b o x => Heap.get?_push_of_some _ (Heap.get?_push_of_some _ x)⟩
end
theorem vals_at {xs : List V} {its : List Value} (rv : Vals xs its) {i : Nat} {u : Value} (hu : its[i]? = some u) : ∃ x, xs[i]? = some x ∧ RelV x u := by
  have hl := rv.length
  have hi : i < its.length := (List.getElem?_eq_some_iff.mp hu).1
  have hx : xs[i]? = some xs[i] := List.getElem?_eq_getElem (by omega)
  obtain ⟨u', h1, h2⟩ := rv.get hx
  rw [hu] at h1
  cases h1
  exact ⟨_, hx, h2⟩
/-- the i-th: a new pair of i and the item -/
def YEnum (xs : List V) : Nat → List V → Prop := fun i ys => ∃ x, xs[i]? = some x ∧ ys = [.int (i : Nat), x]
theorem turn_enumT {P : Program} {w : World} {K : PySem.W.Frag} {elts : List Expr} {kk : Nat} {tpos : Pos} {a e it : Addr} {xs : List V} (hne : e ≠ it) :
    Turn P w K (.Tuple elts kk tpos) (ItT xs.length (fun H => SqT K H a xs) (YEnum xs)) [e, it] e
      (fun i h => (∃ old, IsEnum h e it ((i : Nat) : Int) old) ∧ h.IsTupleIter it a i ∧ e ≠ a ∧ a ≠ it) := by
  refine turn_ofT (wr := [e, it]) (by simp) (fun b hb => hb) (fun i h st b hb => ?_) (fun i h h' st k => ?_) (fun A i s Q E st h => ?_) (fun X hP hw hK hc i pins s σ H I0 hG st hi => ?_)
  · obtain ⟨⟨old, he⟩, ⟨o, ho, hcl, hd⟩, _⟩ := st
    have e' : b = e ∨ b = it := by simpa using hb
    rcases e' with z | z
    · rw [z]; exact ⟨_, he, fun v q => nomatch q⟩
    · rw [z]; exact ⟨o, ho, fun v q => by rw [hd] at q; cases q⟩
  · obtain ⟨⟨old, he⟩, hi, h1, h2⟩ := st
    exact ⟨⟨old, k e (by simp) _ he⟩, hi.at fun o q => k it (by simp) o q, h1, h2⟩
  · obtain ⟨⟨old, he⟩, _⟩ := st
    exact wpAny_pyIter_enum he h
  · subst hP hw hK
    obtain ⟨⟨old, he⟩, hit, h1, h2⟩ := st
    obtain ⟨its, rv, p, hz⟩ := I0.tuple hG
    have D := Draws.tuple (prog := X.prog) (w := X.w) (A := X.A.in1) (I0.ok.hd hc) it a h2 its.toArray
    have hsz : its.toArray.size = xs.length := by rw [List.size_toArray]; exact rv.length.symm
    rw [hsz] at D
    refine ⟨_, _, _, _, WalksT.enumFrom 0 D e hne (by simp [hne, h1]) (by simp), ⟨⟨old, by rw [Int.zero_add]; exact he⟩, hit, p⟩, fun j h st => ?_, fun vals hP => ?_⟩
    · obtain ⟨⟨old, he⟩, hit, _⟩ := st
      rw [Int.zero_add] at he
      exact ⟨⟨old, he⟩, hit, h1, h2⟩
    · obtain ⟨t, u, hu, rfl⟩ := hP
      obtain ⟨x, hx, ru⟩ := vals_at rv (by simpa using hu)
      exact ⟨[.int (i : Nat), x], by simp, .cons ⟨t, by rw [Int.zero_add]⟩ (.cons ru .nil), x, hx, rfl⟩
def iEnumT (K : PySem.W.Frag) (ta : TA) : TI := fun σ H R => ta σ H fun vs H1 => ∃ a xs, vs = [.ref a] ∧ SqT K H1 a xs ∧ R (ItT xs.length (fun H => SqT K H a xs) (YEnum xs)) H1
theorem pi_enumT {X : Cx} {e : Expr} {ta : TA} {p pos tpos : Pos} {elts : List Expr} {kk : Nat} (hg : Gl X "enumerate") (hm : X.mg "enumerate" = none) (ha : PA X [e] ta) (hs : starEach [e] X.env = [(false, eval e X.env)] := by rfl) :
    PI X (.Tuple elts kk tpos) (.Call (.Name "enumerate" p) [e] [] pos) (iEnumT X.K ta) := by
  refine ⟨fun pins s σ H R I h => ?_⟩
  refine Call_ (ld_blt I hg hm boot_enumerate (PyProof.Rows.callWith_type1 (thn (ha.run pos pins s σ H _ I h) fun us s1 ⟨vs, H1, I1, r1, q1⟩ => ?_) hs rfl))
  obtain ⟨a, xs, ex, hq, q⟩ := q1
  subst ex
  cases r1 with
  | cons r rr =>
    cases rr
    cases r
    obtain ⟨its, rv, p', hz⟩ := I1.tuple hq
    have hal : a < s1.heap.objs.size := p'.lt
    refine enum_begins1 (begins_tuple a its.toArray) p' fun h' he hit hsz hk => wpAny_pyIter_enum he ?_
    have I2 : Inv X pins σ H1 { s1 with heap := h' } := I1.kept (t' := s1.toks) hk
    refine ⟨s1.heap.objs.size + 1, [s1.heap.objs.size + 1, s1.heap.objs.size], _, _, H1, rfl, I2, turn_enumT (a := a) (e := s1.heap.objs.size + 1) (it := s1.heap.objs.size) (Nat.succ_ne_self _), ⟨⟨.none, he⟩, ⟨_, hit, rfl, rfl⟩, Nat.ne_of_gt (Nat.lt_succ_of_lt hal), Nat.ne_of_lt hal⟩, fun b hb => ?_, q⟩
    have e' : b = s1.heap.objs.size + 1 ∨ b = s1.heap.objs.size := by simpa using hb
    have hle : s1.heap.objs.size ≤ b := by
      rcases e' with z | z
      · rw [z]; exact Nat.le_add_right _ _
      · rw [z]; exact Nat.le_refl _
    exact I1.fpOk hle (I1.hok.fresh hle)

/-! ### zip(tuple, list) -/
def YZip (xs ys : List V) : Nat → List V → Prop := fun i zs => ∃ x y, xs[i]? = some x ∧ ys[i]? = some y ∧ zs = [x, y]
def iZipTL (K : PySem.W.Frag) (ta : TA) : TI := fun σ H R => ta σ H fun vs H1 => ∃ a b xs ys, vs = [.ref a, .ref b] ∧ SqT K H1 a xs ∧ SqL K H1 b ys ∧ xs.length = ys.length ∧ R (ItT xs.length (fun H => SqT K H a xs ∧ SqL K H b ys) (YZip xs ys)) H1
theorem turn_zipTL {P : Program} {w : World} {K : PySem.W.Frag} {elts : List Expr} {kk : Nat} {tpos : Pos} {a b z TI TO i1 i2 : Addr} {xs ys : List V} (hl : xs.length = ys.length) (S : ZipSep2 z TI TO i1 i2 [i1, a] [i2, b]) :
    Turn P w K (.Tuple elts kk tpos) (ItT xs.length (fun H => SqT K H a xs ∧ SqL K H b ys) (YZip xs ys)) [z, TI, TO, i1, i2] z
      (fun i h => IsZip h z TI TO .none ∧ IsTupOf2 h TI (.ref i1) (.ref i2) ∧ (∃ a1 a2, IsTupOf2 h TO a1 a2) ∧ h.IsTupleIter i1 a i ∧ h.IsListIter i2 b i ∧ a ≠ i1 ∧ b ≠ i2) := by
  refine turn_ofT (wr := [z, TO, i1, i2]) (by simp) (fun c hc => by simp at hc ⊢; rcases hc with q | q | q | q <;> simp [q]) (fun i h st c hc => ?_) (fun i h h' st k => ?_) (fun A i s Q E st h => ?_) (fun X hP hw hK hc i pins s σ H I0 hG st hi => ?_)
  · obtain ⟨hz, hTI, ⟨a1, a2, hTO⟩, ⟨o1, ho1, hc1, hd1⟩, ⟨o2, ho2, hc2, hd2⟩, _⟩ := st
    have e' : c = z ∨ c = TI ∨ c = TO ∨ c = i1 ∨ c = i2 := by simpa using hc
    rcases e' with q | q | q | q | q
    · rw [q]; exact ⟨_, hz, fun v q => nomatch q⟩
    · rw [q]; exact ⟨_, hTI, fun v q => nomatch q⟩
    · rw [q]; exact ⟨_, hTO, fun v q => nomatch q⟩
    · rw [q]; exact ⟨o1, ho1, fun v q => by rw [hd1] at q; cases q⟩
    · rw [q]; exact ⟨o2, ho2, fun v q => by rw [hd2] at q; cases q⟩
  · obtain ⟨hz, hTI, ⟨a1, a2, hTO⟩, h1, h2, n1, n2⟩ := st
    exact ⟨k z (by simp) _ hz, k TI (by simp) _ hTI, ⟨a1, a2, k TO (by simp) _ hTO⟩, h1.at fun o q => k i1 (by simp) o q, h2.at fun o q => k i2 (by simp) o q, n1, n2⟩
  · exact wpAny_pyIter_zip st.1 h
  · subst hP hw hK
    obtain ⟨hz, hTI, hTO, h1, h2, n1, n2⟩ := st
    obtain ⟨its, rv, p, _⟩ := I0.tuple hG.1
    obtain ⟨its2, rv2, p2, _⟩ := I0.list hG.2
    have D1 := Draws.tuple (prog := X.prog) (w := X.w) (A := X.A.in1) (I0.ok.hd hc) i1 a n1 its.toArray
    have D2 := Draws.list (prog := X.prog) (w := X.w) (A := X.A.in1) (I0.ok.hd hc) i2 b n2 its2.toArray
    have s1 : its.toArray.size = xs.length := by rw [List.size_toArray]; exact rv.length.symm
    have s2 : its2.toArray.size = xs.length := by rw [List.size_toArray, hl]; exact rv2.length.symm
    rw [s1] at D1
    rw [s2] at D2
    have Wk := WalksT.zipD2 S D1 D2
    rw [Nat.min_self] at Wk
    refine ⟨_, _, _, _, Wk, ⟨hz, hTI, hTO, ⟨h1, p⟩, h2, p2.isList⟩, fun j h st => ?_, fun vals hP => ?_⟩
    · obtain ⟨hz, hTI, hTO, st1, st2⟩ := st
      exact ⟨hz, hTI, hTO, st1.1, st2.1, n1, n2⟩
    · obtain ⟨u1, u2, hu1, hu2, rfl⟩ := hP
      obtain ⟨x, hx, ru⟩ := vals_at rv (by simpa using hu1)
      obtain ⟨y, hy, ru2⟩ := vals_at rv2 (by simpa using hu2)
      exact ⟨[x, y], by simp, .cons ru (.cons ru2 .nil), x, y, hx, hy, rfl⟩
theorem pi_zipTL {X : Cx} {e e2 : Expr} {ta : TA} {p pos tpos : Pos} {elts : List Expr} {kk : Nat} (hg : Gl X "zip") (hm : X.mg "zip" = none) (ha : PA X [e, e2] ta)
    (hs : starEach [e, e2] X.env = (false, eval e X.env) :: starEach [e2] X.env := by rfl) (hpl : (backTo pos (starEach [e2] X.env)).any (·.1) = false := by rfl) :
    PI X (.Tuple elts kk tpos) (.Call (.Name "zip" p) [e, e2] [] pos) (iZipTL X.K ta) := by
  refine ⟨fun pins s σ H R I h => ?_⟩
  refine Call_ (ld_blt I hg hm PyProof.Rows.boot_zip (PyProof.Rows.callWith_type1 (thn (ha.run pos pins s σ H _ I h) fun us s1 ⟨vs, H1, I1, r1, q1⟩ => ?_) hs hpl))
  obtain ⟨a, b, xs, ys, ex, hqx, hqy, hl, q⟩ := q1
  subst ex
  cases r1 with
  | cons r rr =>
    cases rr with
    | cons r' rr =>
      cases rr
      cases r
      cases r'
      obtain ⟨its, rv, p1, _⟩ := I1.tuple hqx
      obtain ⟨its2, rv2, p2, _⟩ := I1.list hqy
      have hal : a < s1.heap.objs.size := p1.lt
      have hbl : b < s1.heap.objs.size := p2.lt
      refine zip_begins2 (begins_tuple a its.toArray) (begins_list b its2.toArray) p1 p2.isList fun h' hz hTI hTO h1 h2 hsz hk => wpAny_pyIter_zip hz ?_
      have I2 : Inv X pins σ H1 { s1 with heap := h' } := I1.kept (t' := s1.toks) hk
      have S : ZipSep2 (s1.heap.objs.size + 4) (s1.heap.objs.size + 2) (s1.heap.objs.size + 3) s1.heap.objs.size (s1.heap.objs.size + 1) [s1.heap.objs.size, a] [s1.heap.objs.size + 1, b] :=
        zip_sep2 (fp1 := [a]) (fp2 := [b]) (fun c hc => by rw [List.mem_singleton.mp hc]; exact hal) (fun c hc => by rw [List.mem_singleton.mp hc]; exact hbl)
      refine ⟨s1.heap.objs.size + 4, [s1.heap.objs.size + 4, s1.heap.objs.size + 2, s1.heap.objs.size + 3, s1.heap.objs.size, s1.heap.objs.size + 1], _, _, H1, rfl, I2, turn_zipTL hl S, ⟨hz, hTI, ⟨_, _, hTO⟩, ⟨_, h1, rfl, rfl⟩, ⟨_, h2, rfl, rfl⟩, Nat.ne_of_lt hal, Nat.ne_of_lt (Nat.lt_succ_of_lt hbl)⟩, fun c hcm => ?_, q⟩
      have e' : c = s1.heap.objs.size + 4 ∨ c = s1.heap.objs.size + 2 ∨ c = s1.heap.objs.size + 3 ∨ c = s1.heap.objs.size ∨ c = s1.heap.objs.size + 1 := by simpa using hcm
      have hle : s1.heap.objs.size ≤ c := by
        rcases e' with z | z | z | z | z
        · rw [z]; exact Nat.le_add_right _ _
        · rw [z]; exact Nat.le_add_right _ _
        · rw [z]; exact Nat.le_add_right _ _
        · rw [z]; exact Nat.le_refl _
        · rw [z]; exact Nat.le_add_right _ _
      exact I1.fpOk hle (I1.hok.fresh hle)

/-! ### a dict comprehension over any walk -/
theorem dc_it {J : It} {n : Nat} {Gd : Hp → Prop} {Y : Nat → Hp → V → Hp → Prop} (w : Walk J n Gd Y) {g : TG} {tt : TT} {tk tv : TE} {vs : List Nat} {σ : L2.St} {H1 : Hp} {D : Addr} {Qd : Hp → Prop} (Pv : Nat → Hp → Prop) (h0 : Pv 0 (upd H1 D (.dK []))) (hG : ∀ i H, i ≤ n → Pv i H → Gd H)
    (hs : ∀ i x H H', i < n → Pv i H → Y i H x H' → g x (wipe σ vs) H' fun σ2 H2 => wipe σ2 vs = wipe σ vs ∧ tt σ2 H2 fun b H3 =>
      if b = true then tk σ2 H3 fun y H4 => tv σ2 H4 fun z H5 => ∃ kvs k, y = kV k ∧ H5 D = some (.dK kvs) ∧ kvs.length < sizeLine ∧ Pv (i + 1) (upd H5 D (.dK (putK kvs k z))) else Pv (i + 1) H3) (hd : ∀ H, Pv n H → Qd H) :
    ∃ W : Nat → Nat → Hp → Prop, (∃ m, W 0 m (upd H1 D (.dK []))) ∧ ∀ i m H, W i m H →
      (J.stop i H ∧ Qd H) ∨ (J.go i H ∧ ∃ Nx : Hp → Prop, (∀ H', Nx H' → ∃ m', m' < m ∧ W (i + 1) m' H') ∧ ∀ x H', J.yld i H x H' → g x (wipe σ vs) H' fun σ2 H2 => wipe σ2 vs = wipe σ vs ∧ tt σ2 H2 fun b H3 =>
        if b = true then tk σ2 H3 fun y H4 => tv σ2 H4 fun z H5 => ∃ kvs k, y = kV k ∧ H5 D = some (.dK kvs) ∧ kvs.length < sizeLine ∧ Nx (upd H5 D (.dK (putK kvs k z))) else Nx H3) := by
  refine ⟨fun i m H => m = n - i ∧ i ≤ n ∧ Pv i H, ⟨n, by simp, Nat.zero_le _, h0⟩, ?_⟩
  rintro i m H ⟨rfl, hi, p⟩
  have q := hG i H hi p
  by_cases hlt : i < n
  · exact .inr ⟨w.goes i H hlt q, Pv (i + 1), fun H' p' => ⟨n - (i + 1), by omega, rfl, hlt, p'⟩, fun x H' y => hs i x H H' hlt p (w.yields i H x H' hlt q y)⟩
  · have e : i = n := by omega
    subst e
    exact .inl ⟨w.stops H q, hd H p⟩
end R49
set_option Elab.async false
set_option linter.all false
set_option maxRecDepth 100000
set_option maxHeartbeats 4000000
namespace R49
open PySem PySem.Spec PyProof.Rows L2
theorem entry_set_eq : entryFor table "set.__eq__" = some Builtin.«frozenset.__eq__» :=
  entryFor_alias (id' := "frozenset.__eq__") (by kernel_rfl) rfl (by decide +kernel) (by kernel_rfl)
section
variable {prog : Program} {w : World} {K : Type} [DecidableEq K] {knd : KeyKind prog w K} {A : Around} {E : Value → Shared → Prop} {s : Shared}
theorem sub_set_set : isSubtype (.type "set") (.type "set") = pure true := by rw [isSubtype_type]; kernel_rfl
theorem sub_set_frozenset0 : isSubtype (.type "set") (.type "frozenset") = pure false := by rw [isSubtype_type]; kernel_rfl
theorem eq_sets {a b : Addr} {S S' : K → Bool} {n : Nat} {Q : Value → Shared → Prop} (hu : A.units < cLine) (hS : s.heap.SetOf knd a S n) (hS' : s.heap.SetOf knd b S' n) (hv : ∀ k v, knd.is k v = true → ∀ c, v ≠ .ref c)
    (h : ∀ r : Bool, (r = true ↔ ∀ k, S k = true → S' k = true) → Q (.bool r) s) : wpAny (model prog w) A (compareOp .Eq (.ref a) (.ref b)) Q E s := by
  refine wpAny_richCompare_same_room (op := .Eq) hS.typeIs hS'.typeIs PySem.F.slot_set_eq (wpAny_call_entry PySem.F.slot_set_eq hS.typeIs entry_set_eq ?_ (PySem.F.args_set_eq_2 _ _)) hu
  obtain ⟨o, es, ep, t, ho, hex, hd, hel, hmem, hb, hf, hn⟩ := id hS
  obtain ⟨o', es', ep', t', ho', hex', hd', hel', hmem', hb', hf', hn'⟩ := id hS'
  show wpAny _ _ (Builtin.Frozenset.slot1 "__eq__" ⟨[.ref a, .ref b], []⟩ >>= _) _ _ s
  refine wpAny_bind ?_
  unfold Builtin.Frozenset.slot1 slotArgs
  refine wpAny_bind (wpAny_pure ?_)
  try dsimp only
  refine wpAny_pure ?_
  try dsimp only
  refine wpAny_bind ?_
  unfold Builtin.Frozenset.isAnySet
  refine wpAny_bind (wpAny_isInstance hS'.typeIs sub_set_set ?_)
  try dsimp only
  refine wpAny_pure ?_
  simp only [Bool.not_true, Bool.false_eq_true, if_false]
  refine wpAny_bind (wpAny_pure ?_)
  refine wpAny_bind (wpAny_pure ?_)
  unfold Builtin.Frozenset.sizeOf
  refine wpAny_bind (wpAny_bind (wpAny_setEntries_of ho hd hf (wpAny_pure ?_)))
  refine wpAny_bind (wpAny_bind (wpAny_setEntries_of ho' hd' hf' (wpAny_pure ?_)))
  have hnn : (es.size != es'.size) = false := by rw [hn, hn']; simp
  rw [hnn]
  simp only [Bool.false_eq_true, if_false]
  refine wpAny_bind ?_
  refine wpAny_bind ?_
  refine wpAny_bind (wpAny_isInstance hS.typeIs sub_set_frozenset0 ?_)
  try dsimp only
  refine wpAny_pure ?_
  simp only [Bool.false_eq_true, if_false]
  unfold Builtin.Frozenset.subsetOf Builtin.Frozenset.sizeOf
  refine wpAny_bind (wpAny_bind (wpAny_setEntries_of ho hd hf (wpAny_pure ?_)))
  refine wpAny_bind (wpAny_bind (wpAny_setEntries_of ho' hd' hf' (wpAny_pure ?_)))
  have hnn : ¬ es.size > es'.size := by omega
  rw [if_neg hnn]
  refine wpAny_bind (wpAny_setEpoch_of ho hd hf ?_)
  unfold Builtin.Frozenset.walkUnseen
  refine wpAny_bind ?_
  refine wpAny_bind (wpAny_setEntries_of ho hd hf ?_)
  refine wpAny_bind (wpAny_setEntries_of ho' hd' hf' ?_)
  have quiet : ∀ e ∈ es.toList ++ es'.toList, Builtin.Frozenset.quietEq e.2 = pure true := by
    intro e he
    have hk : ∃ k, knd.is k e.2 = true := by
      rcases List.mem_append.mp he with q | q
      · exact hel.keys e q
      · exact hel'.keys e q
    obtain ⟨k, hk⟩ := hk
    have nr := hv k e.2 hk
    cases q : e.2 with
    | ref c => exact absurd q (nr c)
    | _ => rfl
  refine wpAny_bind (wpAny_mono (wpAny_forIn_list _ (fun rest b s' => b = (none, ()) ∧ s' = s ∧ ∀ e ∈ rest, e ∈ es.toList ++ es'.toList) (fun b s' => b = (none, ()) ∧ s' = s) ?turn ?fin _ _ ⟨rfl, rfl, fun e he => he⟩) ?post fun _ _ q => q)
  case fin => exact fun b' s' hI => ⟨hI.1, hI.2.1⟩
  case turn =>
    intro x rest b' s' hI
    obtain ⟨rfl, rfl, hr⟩ := hI
    try dsimp only
    rw [quiet x (hr x (by simp))]
    refine wpAny_bind (wpAny_pure ?_)
    simp only [Bool.not_true, Bool.false_eq_true, if_false]
    exact wpAny_pure ⟨rfl, rfl, fun e he => hr e (by simp [he])⟩
  case post =>
    intro r s' hr
    obtain ⟨rfl, rfl⟩ := hr
    try dsimp only
    refine wpAny_pure ?_
    refine wpAny_bind (wpAny_mono (wpAny_forIn_list _ (fun rest b s2 => b = (none, ()) ∧ s2 = s' ∧ (∀ e ∈ rest, e ∈ es.toList) ∧ ∀ e ∈ es.toList, e ∈ rest ∨ ∃ k, knd.is k e.2 = true ∧ S' k = true)
      (fun b s2 => s2 = s' ∧ ((b = (none, ()) ∧ ∀ e ∈ es.toList, ∃ k, knd.is k e.2 = true ∧ S' k = true) ∨ (b = (some false, ()) ∧ ∃ e ∈ es.toList, ∃ k, knd.is k e.2 = true ∧ S' k = false)))
      ?turn2 ?fin2 _ _ ⟨rfl, rfl, fun e he => he, fun e he => .inl he⟩) ?post2 fun _ _ q => q)
    case turn2 =>
      intro x rest b' s2 hI
      obtain ⟨rfl, rfl, hr, hl⟩ := hI
      have hx := hr x (by simp)
      obtain ⟨⟨k, hk, hh⟩, hsc⟩ := hel x hx
      try dsimp only
      refine wpAny_bind (wpAny_holding ?_)
      rw [hh]
      refine wpAny_setFind_of hk hsc hS' fun r hr' => ?_
      cases r with
      | none =>
        simp only [Option.isNone_none, if_true]
        refine wpAny_pure ⟨rfl, .inr ⟨rfl, x, hx, k, hk, hr'.symm⟩⟩
      | some j =>
        simp only [Option.isNone_some, Bool.false_eq_true, if_false]
        refine wpAny_bind ?_
        unfold Builtin.Frozenset.unchanged
        refine wpAny_bind (wpAny_setEpoch_of ho hd hf ?_)
        simp only [bne_self_eq_false, Bool.false_eq_true, if_false]
        refine wpAny_pure (wpAny_pure ⟨rfl, rfl, fun e he => hr e (by simp [he]), fun e he => ?_⟩)
        rcases hl e he with q | q
        · rcases List.mem_cons.mp q with q | q
          · exact .inr ⟨k, by rw [q]; exact hk, hr'.symm⟩
          · exact .inl q
        · exact .inr q
    case fin2 =>
      intro b' s2 hI
      obtain ⟨rfl, rfl, hr, hl⟩ := hI
      refine ⟨rfl, .inl ⟨rfl, fun e he => ?_⟩⟩
      rcases hl e he with q | q
      · simp at q
      · exact q
    case post2 =>
      intro r s2 hr
      obtain ⟨rfl, hr⟩ := hr
      rcases hr with ⟨rfl, hr⟩ | ⟨rfl, hr⟩
      · try dsimp only
        refine wpAny_pure (wpAny_pure ⟨_, rfl, (fun z => nomatch z), h true ⟨fun _ k hk => ?_, fun _ => rfl⟩⟩)
        obtain ⟨e, he, hke⟩ := (hmem k).mp hk
        obtain ⟨k', h1, h2⟩ := hr e he
        rw [knd.inj e.2 k k' hke h1]
        exact h2
      · try dsimp only
        refine wpAny_pure (wpAny_pure ⟨_, rfl, (fun z => nomatch z), h false ⟨(fun z => nomatch z), fun z => ?_⟩⟩)
        obtain ⟨e, he, k, h1, h2⟩ := hr
        have := z k ((hmem k).mpr ⟨e, he, h1⟩)
        rw [h2] at this
        cases this
end
end R49
set_option Elab.async false
set_option linter.all false
set_option maxRecDepth 100000
set_option maxHeartbeats 4000000
namespace R49
open PySem PySem.Spec PyProof.Rows L2
/-- the keys met in the first i places -/
def met (ks : List Key) (i : Nat) : Key → Bool := fun k => (ks.take i).any fun x => decide (x = k)
theorem met_zero (ks : List Key) (k : Key) : met ks 0 k = false := by simp [met]
theorem met_new {ks : List Key} (nd : ks.Nodup) {i : Nat} {k : Key} (h : ks[i]? = some k) : met ks i k = false := by
  have e : ks = ks.take i ++ k :: ks.drop (i + 1) := by
    obtain ⟨hi, rfl⟩ := List.getElem?_eq_some_iff.mp h
    simp
  have q := nd
  rw [e, List.nodup_append] at q
  unfold met
  rw [List.any_eq_false]
  intro x hx he
  exact q.2.2 x hx k (by simp) (by simpa using he)
theorem met_succ {ks : List Key} {i : Nat} {k : Key} (h : ks[i]? = some k) (j : Key) : (met ks i j || decide (j = k)) = met ks (i + 1) j := by
  have e : ks.take (i + 1) = ks.take i ++ [k] := by rw [List.take_succ, h]; rfl
  unfold met
  rw [e, List.any_append]
  congr 1
  simp only [List.any_cons, List.any_nil, Bool.or_false]
  exact decide_eq_decide.mpr ⟨fun e => e.symm, fun e => e.symm⟩
section
variable {prog : Program} {w : World} {A : Around} {R : Result → Shared → Prop} {I : Addr} {fp wr : List Addr} {G : Array GenState → Array GenState → Prop} {n : Nat} {P : Nat → Value → Prop} {St : Nat → Shared → Prop}
theorem set_loopK (W : WalksS prog w A.in1 I fp wr G n P St) (S : Addr) (hSf : S ∉ fp)
    (ks : List Key) (nd : ks.Nodup) (hval : ∀ i v, P i v → ∃ k, ks[i]? = some k ∧ RelV (kV k) v) (hb : n + 1 < scanBound) :
    ∀ (k i : Nat) (s : Shared), n - i = k → i ≤ n → St i s →
      s.heap.SetOf (mixKind prog w) S (met ks i) i →
      (∀ s', Moved (S :: wr) G s s' → s'.heap.SetOf (mixKind prog w) S (met ks n) n → R (.ok (.ret .none)) s') →
      codeAny (model prog w) A (.builtin "set.update.loop" ⟨[.ref S, .ref I], []⟩) R s := by
  have hSw : S ∉ wr := fun h => hSf (W.sub _ h)
  have hsub : ∀ b ∈ wr, b ∈ S :: wr := fun b hb => List.mem_cons_of_mem _ hb
  intro k
  induction k with
  | zero =>
    intro i s hk hi hst hS hR
    have hin : i = n := by omega
    subst hin
    refine codeAny_builtin F.entry_set_update_loop ?_
    rw [Around.under_plainId F.plain_set_update_loop _]
    show wpAny _ A.in1 (pyNext (.ref I) >>= _) _ _ s
    refine wpAny_bind (W.done s _ _ hst fun s' hm => ?_)
    show wpAny _ A.in1 (ret Value.none) _ _ s'
    exact wpAny_pure (hR s' (hm.mono hsub) (by
      obtain ⟨o, es, ep, t, ho, rest⟩ := hS
      exact ⟨o, es, ep, t, hm.heap S _ hSw ho, rest⟩))
  | succ k ih =>
    intro i s hk hi hst hS hR
    have hlt : i < n := by omega
    refine codeAny_builtin F.entry_set_update_loop ?_
    rw [Around.under_plainId F.plain_set_update_loop _]
    show wpAny _ A.in1 (pyNext (.ref I) >>= _) _ _ s
    refine wpAny_bind (W.item i s _ _ hlt hst fun v s' hP hst' hm => ?_)
    obtain ⟨k0, hk0, rk⟩ := hval i v hP
    have hks := key_scan rk
    have hS' : s'.heap.SetOf (mixKind prog w) S (met ks i) i := by
      obtain ⟨o, es, ep, tb, ho, rest⟩ := hS
      exact ⟨o, es, ep, tb, hm.heap S _ hSw ho, rest⟩
    show wpAny _ A.in1 (holding [v] (setAdd S v) >>= _) _ _ s'
    refine wpAny_bind (wpAny_holding ?_)
    unfold setAdd
    refine wpAny_holding ?_
    refine wpAny_bind ((mixKind prog w).pyHash (k := k0) (kV_is rk) ?_)
    have hroom : i + 1 < scanBound := by omega
    refine wpAny_setAddHashed_of (knd := mixKind prog w) (s := { s' with toks := s'.toks + 1 }) (kV_is rk) hks hS' hroom fun h' hsb hS2 => ?_

    have hSi : h'.SetOf (mixKind prog w) S (met ks (i + 1)) (i + 1) := by
      have e : (if met ks i k0 = true then i else i + 1) = i + 1 := by rw [met_new nd hk0]; rfl
      have e2 : (fun j => met ks i j || decide (j = k0)) = met ks (i + 1) := funext fun j => met_succ hk0 j
      rw [e, e2] at hS2
      exact hS2
    refine wpAny_pure ⟨plainId_quiet F.plain_set_update_loop _, ih (i + 1) _ (by omega) hlt (W.frame _ s' _ _ hst' (Nat.le_succ _) fun b hb o e => ?_) hSi fun s'' hm'' hS'' => ?_⟩
    · rw [hsb.2 b (fun h : b = S => hSf (by rw [← h]; exact hb))]; exact e
    · refine hR s'' (Moved.trans W.gtrans ((hm.mono hsub).then_heap (Nat.le_succ _) fun b o hb e => ?_) hm'') hS''
      rw [hsb.2 b (fun h : b = S => hb (by rw [h]; exact List.mem_cons_self))]; exact e
end
section
variable {prog : Program} {w : World} {A : Around} {E : Value → Shared → Prop} {s : Shared}
set_option maxRecDepth 100000 in
set_option maxHeartbeats 3200000 in

theorem call_set_keys {l : Addr} {items : Array Value} {ks : List Key} {Q : Value → Shared → Prop}
    (hh : A.handled = none) (hl : s.heap.IsList l items) (nd : ks.Nodup) (hi : ∀ (i : Nat) (v : Value), items[i]? = some v → ∃ k, ks[i]? = some k ∧ RelV (kV k) v) (hb : items.size + 1 < scanBound)
    (h : ∀ (h' : Heap) (tk : Nat), h'.SetOf (mixKind prog w) s.heap.objs.size (met ks items.size) items.size →
      (∀ b o, b < s.heap.objs.size → s.heap.get? b = some o → h'.get? b = some o) → Q (.ref s.heap.objs.size) { s with heap := h', toks := tk }) :
    wpAny (model prog w) A (call (.type "set") [.ref l]) Q E s := by
  obtain ⟨c, tl, hmro⟩ := F.called_set.mro
  have hmade := F.called_set.made
  have hsub := F.called_set.sub
  refine wpAny_call (codeAny_of_tree ?_)
  show wpAny _ _ (callAny (.type "set") _) _ _ _
  refine wpAny_pure ⟨Code.quiet_builtin _ (by decide +kernel), codeAny_builtin F.entry_type_call ?_⟩
  rw [Around.under_plain (weight_type_call_type "set" [.ref l] []) rfl]
  have h1 := F.called_set.notType
  have h2 := F.called_set.canCreate
  have hct := F.typeCall_set_1 (.ref l)
  repeat (any_goals (first | assumption | wp_step))

  refine codeAny_mono (code_set_new_1 (.ref l) (E := E) (Q₁ := fun obj s₁ => ∃ led : Bool, obj = .ref s.heap.objs.size ∧ s₁ = { s with heap := s.heap.push { cls := .type "set", dict := none, data := .set #[] 0 (.fresh 0 0 led) } }) fun led => ⟨led, rfl, rfl⟩) fun r s₁ hr => ?_
  cases r with
  | error e => exact hr
  | ok fl =>
    cases fl with
    | ret obj =>
      obtain ⟨led, rfl, rfl⟩ := hr
      have hS : (s.heap.push { cls := .type "set", dict := none, data := .set #[] 0 (.fresh 0 0 led) }).get? s.heap.objs.size = some { cls := .type "set", dict := none, data := .set #[] 0 (.fresh 0 0 led) } := Heap.get?_push_size _ rfl
      have hT : Shared.TypeIs { s with heap := s.heap.push { cls := .type "set", dict := none, data := .set #[] 0 (.fresh 0 0 led) } } (.ref s.heap.objs.size) "set" := ⟨_, hS, rfl⟩
      have hli := F.called_set.init.lookup
      have hbi := F.called_set.init.bind (.ref s.heap.objs.size)
      repeat (any_goals (first | assumption | wp_step))

      refine codeAny_mono (codeAny_call_builtin (R := wants (fun r s₂ => r = .none ∧ ∃ h' tk, s₂ = { s with heap := h', toks := tk } ∧
          h'.SetOf (mixKind prog w) s.heap.objs.size (met ks items.size) items.size ∧
          (∀ b o, b < s.heap.objs.size → s.heap.get? b = some o → h'.get? b = some o)) E) F.called_set.init.plain F.entry_set_init (check_set_init_1 hT ?_)) fun r₂ s₂ hr₂ => ?_
      · obtain ⟨ol, hol, hcl, nl, hdl⟩ := hl
        obtain ⟨ocls, odict, odata, oslots⟩ := ol
        simp only at hcl hdl
        subst hcl; subst hdl
        have hol' : (s.heap.push { cls := .type "set", dict := none, data := .set #[] 0 (.fresh 0 0 led) }).get? l = some { cls := .type "list", dict := odict, data := .seq items nl, slots := oslots } := Heap.get?_push_of_some _ hol
        have hsls := F.sub_list_set
        have hslf := F.sub_list_frozenset
        have hne : (Value.type "list" == Value.type "dict") = false := by decide
        have hl1 : (s.heap.push { cls := .type "set", dict := none, data := .set #[] 0 (.fresh 0 0 led) }).IsList l items := ⟨_, hol', rfl, nl, rfl⟩
        unfold Builtin.«set.__init__» noKeywords Builtin.Frozenset.updateFrom
        generalize hPI : pyIter = PI
        wp_walk
        subst hPI

        refine wpAny_pyIter_list hl1 ?_
        refine wpAny_bind (wpAny_runValue ?_)
        have hlS : l < s.heap.objs.size := Heap.lt_size hol
        have hh3 : A.in1.in1.in1.handled = none := by simp [hh]
        have hneI : l ≠ (s.heap.push { cls := .type "set", dict := none, data := .set #[] 0 (.fresh 0 0 led) }).objs.size := by
          rw [Heap.size_push]; exact Nat.ne_of_lt (Nat.lt_succ_of_lt hlS)
        have hSf : s.heap.objs.size ∉ [(s.heap.push { cls := .type "set", dict := none, data := .set #[] 0 (.fresh 0 0 led) }).objs.size, l] := by
          rw [Heap.size_push]; simp only [List.mem_cons, List.mem_singleton, List.not_mem_nil, or_false, not_or]
          exact ⟨Nat.ne_of_lt (Nat.lt_succ_self _), Nat.ne_of_gt hlS⟩
        refine set_loopK ((Walks.list hh3 _ l hneI items).toS) s.heap.objs.size
          hSf ks nd hi hb (items.size - 0) 0 _ (by omega) (Nat.zero_le _)
          ⟨⟨_, Heap.get?_push_size _ rfl, rfl, rfl⟩, (hl1.push _)⟩ ?hS0 ?hR
        case hS0 =>
          have hget : ((s.heap.push { cls := .type "set", dict := none, data := .set #[] 0 (.fresh 0 0 led) }).push { cls := .type "list_iterator", data := .fields #[.ref l, .int 0 0] }).get? s.heap.objs.size
              = some { cls := .type "set", dict := none, data := .set #[] 0 (.fresh 0 0 led) } := Heap.get?_push_of_some _ hS
          have e0 : met ks 0 = fun _ => false := funext (met_zero ks)
          rw [e0]
          exact ⟨_, #[], 0, _, hget, ⟨rfl, rfl, rfl⟩, rfl, (fun e he => by simp at he), (fun k => by simp), (by decide), (by rfl), rfl⟩
        case hR =>
          intro s' hm hS'
          obtain ⟨h', g', d', tk', os'⟩ := s'
          have eg : g' = s.gens := hm.gens
          have ed : d' = s.drawn := hm.drawn
          have eo : os' = s.os := hm.os
          subst eg; subst ed; subst eo
          show wpAny _ _ _ _ _ _
          refine wpAny_pure ?_
          show wpAny _ _ (ret Value.none) _ _ _
          refine wpAny_pure ⟨rfl, h', tk', rfl, hS', fun b o hb e => ?_⟩
          have hb1 : b ≠ s.heap.objs.size := Nat.ne_of_lt hb
          have hb2 : b ≠ (s.heap.push { cls := .type "set", dict := none, data := .set #[] 0 (.fresh 0 0 led) }).objs.size := by
            rw [Heap.size_push]; exact Nat.ne_of_lt (Nat.lt_succ_of_lt hb)
          exact hm.heap b o (by simp only [List.mem_cons, List.mem_singleton, List.not_mem_nil, or_false, not_or]; exact ⟨hb1, hb2⟩) (Heap.get?_push_of_some _ (Heap.get?_push_of_some _ e))

      · cases r₂ with
        | error e => exact hr₂
        | ok fl₂ =>
          cases fl₂ with
          | ret r =>
            obtain ⟨rfl, h', tk, rfl, hS', hk'⟩ := hr₂
            repeat (any_goals (first | assumption | wp_step))
            exact h _ _ hS' hk'
          | _ => exact hr₂.elim
    | _ => exact hr.elim
end
/-! ### in the hand layer -/
section
variable {X : Cx}
/-- set(ts), ts a list of different texts -/
def rSetTx (P : Program) (w : World) (K : PySem.W.Frag) : List V → Hp → VK → Prop := fun xs H Q => ∃ (l : Addr) (ts : List Str), xs = [V.ref l] ∧ SqL K H l (ts.map V.str) ∧ ts.Nodup ∧ ts.length < 60 ∧ ∀ p, H p = none → Q (.ref p) (upd H p (SetK P w p (fun k => (ts.map (Sum.inr : Str → Key)).any fun x => decide (x = k)) ts.length))
theorem nodup_inr {ts : List Str} (nd : ts.Nodup) : (ts.map (Sum.inr : Str → Key)).Nodup := by
  rw [List.nodup_iff_pairwise_ne] at *
  rw [List.pairwise_map]
  exact nd.imp fun h e => h (by injection e)
theorem cr_setTx (hc : X.calm = true) : CallR X (.type "set") (rSetTx X.prog X.w X.K) := by
  intro pins s σ H xs us Q I r h
  obtain ⟨l, ts, rfl, hl, nd, hf, q⟩ := h
  rw [Vals.ref1 r]
  obtain ⟨its, rv, pl, hz⟩ := I.list hl
  have hn : H s.heap.objs.size = none := I.hok.fresh (Nat.le_refl _)
  have hlen : its.length = ts.length := by rw [← rv.length, List.length_map]
  refine call_set_keys (prog := X.prog) (w := X.w) (ks := ts.map Sum.inr) (I.ok.hd hc) pl.isList (nodup_inr nd) (fun i v hv => ?_) (by rw [List.size_toArray, hlen]; unfold scanBound; omega) fun h' tk hS k => ?_
  · have hv' : its[i]? = some v := by simpa using hv
    have hi : i < its.length := (List.getElem?_eq_some_iff.mp hv').1
    have hx : (ts.map V.str)[i]? = some (.str ts[i]) := by simp [show i < ts.length by omega]
    obtain ⟨u', h1, h2⟩ := rv.get hx
    rw [hv'] at h1
    cases h1
    exact ⟨.inr ts[i], by simp [show i < ts.length by omega], h2⟩
  · have hsz : its.toArray.size = ts.length := by rw [List.size_toArray, hlen]
    rw [hsz] at hS
    have em : met (ts.map Sum.inr) ts.length = fun k => (ts.map (Sum.inr : Str → Key)).any fun x => decide (x = k) := by
      funext k
      unfold met
      rw [List.take_of_length_le (by simp)]
    rw [em] at hS
    exact ⟨.ref s.heap.objs.size, _, I.laid (t' := tk) (fun b o e => k b o (Heap.lt_size e) e) (Nat.le_refl _) (setK_new hS), rfl, q _ hn⟩
/-- set == set, of the same size -/
def rSetEq (P : Program) (w : World) : V → V → Hp → VK → Prop := fun x y H Q => ∃ (a b : Addr) (S S' : Key → Bool) (n : Nat), x = .ref a ∧ y = .ref b ∧ H a = some (SetK P w a S n) ∧ H b = some (SetK P w b S' n) ∧
  ∀ r : Bool, (r = true ↔ ∀ k, S k = true → S' k = true) → Q (.bl r) H
theorem mix_noRef {P : Program} {w : World} (k : Key) (v : Value) (h : (mixKind P w).is k v = true) (c : Addr) : v ≠ .ref c := by
  intro e
  subst e
  cases k <;> exact nomatch h
theorem op_setEq (hu : X.A.units < cLine) : OpR X (compareOp .Eq) (rSetEq X.prog X.w) := by
  intro pins s σ H x y v u Q I rx ry h
  obtain ⟨a, b, S, S', n, rfl, rfl, ha, hb, q⟩ := h
  cases rx
  cases ry
  refine eq_sets hu (setK_get I ha) (setK_get I hb) (fun k v h => mix_noRef k v h) fun r hr => ⟨.bl r, H, I, rfl, q r hr⟩
end
end R49
set_option Elab.async false
set_option linter.all false
set_option maxRecDepth 100000
set_option maxHeartbeats 4000000
namespace R49
open PySem PySem.Spec PyProof.Rows L2
section
variable {prog : Program} {w : World} {A : Around} {E : Value → Shared → Prop} {s : Shared}
theorem collect_tupT {l : Addr} {vs : List Value} {Q : List Value → Shared → Prop} (hl : s.heap.IsTuple l vs.toArray)
    (h : Q vs { s with heap := (s.heap.push (seqObj "list" #[] 0)).update s.heap.objs.size (Obj.mapSeq (· ++ vs.toArray)) }) (hsz : vs.length ≤ sizeLine) :
    wpAny (model prog w) A (collect (.ref l)) Q E s := by
  obtain ⟨o, ho, hc, n, hd⟩ := id hl
  unfold collect
  refine wpAny_bind (wpAny_runValue (codeAny_builtin entry_proto_collect' ?_))
  show wpAny _ _ (do again (.builtin "list.__iadd__" ⟨[← newList [], .ref l], []⟩)) _ _ s
  refine wpAny_bind (wpAny_newList (wpAny_pure ⟨Code.quiet_builtin _ (by decide +kernel), codeAny_builtin entry_list_iadd' ?_⟩))
  show wpAny _ _ (Builtin.List.listExtendWith (.ref s.heap.objs.size) (.ref l) (.ref s.heap.objs.size)) _ _ { s with heap := s.heap.push (seqObj "list" #[] 0) }
  unfold Builtin.List.listExtendWith
  have ho' : (s.heap.push (seqObj "list" #[] 0)).get? l = some o := Heap.get?_push_of_some _ ho
  refine wpAny_bind (wpAny_typeOf (T := "tuple") ⟨o, ho', hc⟩ ?_)
  have ht : (Value.type "tuple" == Value.type "tuple") = true := by rfl
  rw [if_pos (by rw [ht]; simp)]
  refine wpAny_bind (listItems_at ho' hd ?_)
  refine wpAny_bind (listItems_at (xs := #[]) (n := 0) (Heap.get?_push_size _ rfl) rfl ?_)
  rw [if_neg (by simp)]
  refine wpAny_bind (listUpdate_at (xs := #[]) (n := 0) (Heap.get?_push_size _ rfl) rfl ?_ (Nat.zero_le _) (by show (#[] ++ vs.toArray).size ≤ sizeLine + 1; simp only [Array.size_append, List.size_toArray, List.length_nil]; omega))
  refine wpAny_pure ?_
  show wpAny (model prog w) A (do
      let o ← load s.heap.objs.size
      match o.data with
      | .seq xs _ => pure xs.toList
      | _ => unsupported "internal:collect") Q E { s with heap := (s.heap.push (seqObj "list" #[] 0)).update s.heap.objs.size (Obj.mapSeq (· ++ vs.toArray)) }
  refine wpAny_bind (wpAny_load (get?_update_seq (Heap.get?_push_size _ rfl) _) ?_)
  show wpAny _ _ (pure ((#[] : Array Value) ++ vs.toArray).toList) Q E _
  rw [show ((#[] : Array Value) ++ vs.toArray).toList = vs by simp]
  exact wpAny_pure h
theorem sortedK_tup {κ : PyProof.Rows.KeyKind} (hO : κ.OneLt) {l : Addr} {vs : List Value} {Q : Value → Shared → Prop} (hl : s.heap.IsTuple l vs.toArray) (h0 : KeysOf κ (pairsOf vs)) (hkk : ∀ v₁ v₂ rest, vs = v₁ :: v₂ :: rest → keyKind' (v₁ :: v₂ :: rest).toArray = pure oneType') (h64 : vs.length < 64)
    (h : ∀ st' : SortSt, (arrOf st').Perm (pairsOf vs) → SortedToK κ (arrOf st') (pairsOf vs).size → Q (.ref (s.heap.objs.size + 1)) { s with heap := sortedAll s.heap vs ((arrOf st').map (·.2)) }) :
    wpAny (model prog w) A (call (.builtin "sorted") [.ref l]) Q E s := by
  refine Calls.call_function_entry kind_sorted plain_sorted entry_sorted (args_sorted1 _) ?_
  unfold Builtin.«sorted»
  refine wpAny_bind (m := checkCount "sorted" 1 1 _) (wpAny_pure ?_)
  refine wpAny_bind (collect_tupT hl ?_ (by rw [sizeLine_eq]; omega))
  refine wpAny_bind (wpAny_newList ?_)
  have hsz : ((s.heap.push (seqObj "list" #[] 0)).update s.heap.objs.size (Obj.mapSeq (· ++ vs.toArray))).objs.size = s.heap.objs.size + 1 := by
    rw [Heap.size_update, size_push']
  have hoL : (((s.heap.push (seqObj "list" #[] 0)).update s.heap.objs.size (Obj.mapSeq (· ++ vs.toArray))).push (seqObj "list" vs.toArray 0)).get? (s.heap.objs.size + 1) = some (seqObj "list" vs.toArray 0) := by
    rw [← hsz]; exact Heap.get?_push_size _ rfl
  show wpAny _ _ _ _ _ { s with heap := ((s.heap.push (seqObj "list" #[] 0)).update s.heap.objs.size (Obj.mapSeq (· ++ vs.toArray))).push (seqObj "list" vs.toArray 0) }
  rw [hsz]
  refine wpAny_bind (wpAny_holding (wpAny_call_entry slot_list_sort ⟨_, hoL, rfl⟩ entry_list_sort (list_sort_treeK hO hoL h0 hkk h64 fun st' a1 a2 => ⟨_, rfl, ?_⟩) (args_list_sort _)))
  exact wpAny_pure ⟨_, rfl, h st' a1 a2⟩
theorem sorted_strs_tup {l : Addr} {vs : List Value} {ss : List Str} {Q : Value → Shared → Prop} (hl : s.heap.IsTuple l vs.toArray) (hS : StrsAre vs ss) (h64 : vs.length < 64)
    (h : ∀ (out : Array Value) (ss' : List Str), StrsAre out.toList ss' → ss'.Perm ss → sortedS ss' = true → Q (.ref (s.heap.objs.size + 1)) { s with heap := sortedAll s.heap vs out }) :
    wpAny (model prog w) A (call (.builtin "sorted") [.ref l]) Q E s := by
  refine sortedK_tup strKind_oneLt hl hS.keysOf (fun v₁ v₂ rest e => keyKind_strs (by rw [← e]; exact hS)) h64 fun st' hp hs => ?_
  obtain ⟨ss', h1, h2, h3⟩ := sorted_out_str hS hp hs
  exact h _ ss' h1 h2 h3
end
section
variable {X : Cx}
/-- sorted(ts), a tuple of texts -/
def rSortedTx (K : PySem.W.Frag) : List V → Hp → VK → Prop := fun vs H Q => ∃ (a : Addr) (xs : List Str), vs = [V.ref a] ∧ SqT K H a (xs.map V.str) ∧ xs.length < 64 ∧
  ∀ (ys : List Str) (p : Addr), ys.Perm xs → sortedS ys = true → H p = none → Q (.ref p) (upd H p (.lst (ys.map V.str)))
theorem cr_sortedTx : CallR X (.builtin "sorted") (rSortedTx X.K) := by
  intro pins s σ H vs us Q I r h
  obtain ⟨a, xs, rfl, hs, h64, q⟩ := h
  obtain ⟨its, rv, hl, _⟩ := I.tuple hs
  rw [Vals.ref1 r]
  have hlen0 := rv.length
  rw [List.length_map] at hlen0
  refine sorted_strs_tup hl rv.strs (by rw [← hlen0]; exact h64) fun out ys h1 h2 h3 => ?_
  obtain ⟨ep, he'⟩ := PyProof.Rows.sortedAll_at s.heap its out
  have hlen : (ys.map V.str).length ≤ sizeLine := by rw [List.length_map, h2.length_eq]; exact small64 h64
  exact ⟨.ref _, upd H (s.heap.objs.size + 1) (.lst (ys.map V.str)), I.laid (t' := s.toks) (fun _ _ => PyProof.Rows.sortedAll_old) (Nat.le_succ _) ⟨hlen, out.toList, ep, vals_of_strs h1, he'⟩, rfl, q ys _ h2 h3 (I.hok.fresh (Nat.le_succ _))⟩
theorem flat_ints (ys : List Int) : (ys.map V.int).all flatV = true := by
  rw [List.all_map]
  exact List.all_eq_true.mpr fun _ _ => rfl
/-- t.index(i), ints -/
def rTIndex (K : PySem.W.Frag) : V → List V → Hp → VK → Prop := fun x xs H Q => ∃ p, ∃ ys : List Int, ∃ z j, x = .ref p ∧ xs = [.int z] ∧ SqT K H p (ys.map V.int) ∧ ys[j]? = some z ∧ (∀ m, m < j → ys[m]? ≠ some z) ∧ Q (.int (j : Nat)) H
theorem mt_tindex : MtR X "tuple.index" (rTIndex X.K) := by
  intro pins s σ H x xs v us Q I rx rs h
  obtain ⟨p, ys, z, j, rfl, rfl, hq, hy, hno, q⟩ := h
  cases rx
  obtain ⟨u, rfl, t, rfl⟩ := vals1 rs
  obtain ⟨its, r, pl, hz⟩ := I.tuple hq
  obtain ⟨⟨cls, dd, dt, sl⟩, ho, hc, n, hd⟩ := pl
  simp only at hc hd
  subst hc
  subst hd
  have hl : its.toArray.size = ys.length := by rw [List.size_toArray, ← r.length, List.length_map]
  have hj : j < its.toArray.size := by rw [hl]; exact (List.getElem?_eq_some_iff.mp hy).1
  have at' : ∀ (m : Nat) (hm : m < its.toArray.size), ∃ y t', ys[m]? = some y ∧ its.toArray[m] = Value.int y t' := fun m hm => by
    have hm' : m < ys.length := by rw [← hl]; exact hm
    obtain ⟨w, hw, t', hw'⟩ := r.get (i := m) (x := .int ys[m]) (by simp [hm'])
    refine ⟨ys[m], t', List.getElem?_eq_getElem hm', ?_⟩
    have e := (List.getElem?_eq_some_iff.mp hw).2
    rw [← hw', ← e]
    simp
  refine call_meets PySem.F.slot_tuple_index ⟨_, ho, rfl⟩ PySem.F.entry_tuple_index (PySem.F.args_tuple_index_2 _ _) (TI.tuple_indexAt p its.toArray n dd sl (.int z t) (eqU (.int z)) j hj ?_ ?_)
    ⟨ho, fun w hw => mem_eqAt (x := .int z) ⟨t, rfl⟩ rfl r (flat_ints ys) w (by simpa using hw), ⟨.int (j : Nat), H, I.tok _, ⟨_, rfl⟩, q⟩⟩
  · obtain ⟨y, t', h1, h2⟩ := at' j hj
    rw [hy] at h1
    cases h1
    rw [h2]
    show (z == z) = true
    exact beq_self_eq_true z
  · intro m hm hmj
    obtain ⟨y, t', h1, h2⟩ := at' m hm
    rw [h2]
    show (y == z) = false
    have : y ≠ z := fun e => hno m hmj (by rw [h1, e])
    simpa using this
end
end R49
set_option Elab.async false
set_option linter.all false
set_option maxRecDepth 100000
set_option maxHeartbeats 4000000
namespace R49
open PySem PySem.Spec PyProof.Rows L2
/-- {k: v}, k a tuple of keys -/
def tDisp1T (tk tv : TE) : TE := fun σ H Q => ∀ p, H p = none → tk σ (upd H p (.dT [])) fun x H1 => tv σ H1 fun y H2 => H2 p = some (.dT []) ∧ ∃ (b : Addr) (key : List Key), x = .ref b ∧ H2 b = some (.tup (key.map kV)) ∧ Q (.ref p) (upd H2 p (.dT [(key, y)]))
theorem pe_disp1T {X : Cx} {pos : Pos} {k v : Expr} {tk tv : TE} (hu : X.A.units + 1 < cLine) (hk : PE X k tk) (hv : PE X v tv) : PE X (.Dict [some k] [v] pos) (tDisp1T tk tv) := by
  refine ⟨fun pins s σ H Q I q => ?_⟩
  have hn := I.hok.fresh (Nat.le_refl s.heap.objs.size)
  have I1 := I.laid (a := s.heap.objs.size) (o := .dT []) (h' := s.heap.push { cls := .type "dict", data := .dict #[] }) (t' := s.toks) (fun _ _ q => Heap.get?_push_of_some _ q) (Nat.le_refl _) (dt_empty s.heap I.big)
  have hshape := zip_pairTrees [some k] [v] X.env pos rfl rfl
  rw [arm_eval_Dict, hshape, dictDisplay_pairs (pairTrees [some k] [v] X.env pos) (fun z => nomatch z) (by show 1 < _ ; omega)]
  refine wpAny_bind (wpAny_standAt (wpAny_bind (wpAny_subDictH (knd := tupleKind (mixKind X.prog X.w)) (hu := by show X.A.units < cLine; omega) (Q := fun d s' => wpAny (model X.prog X.w) X.A (pure (Value.ref d)) _ X.xe s') (by show 1 ≤ 15; omega) ?_)))
  refine pairTrees_cons_walk (thn (hk.run pins _ σ _ _ I1 (q _ hn)) fun u s1 ⟨x, H1, I2, rx, q1⟩ => thn (hv.run pins s1 σ H1 _ I2 q1) fun u2 s2 ⟨y, H2, I3, ry, e, b, key, ex, eb, q2⟩ => pairTrees_nil_walk ?_)
  subst ex
  cases rx
  obtain ⟨z, hd, xs0, r0, dd⟩ := dt_of I3.hok e
  cases r0
  refine ⟨[(key, b, u2)], ⟨rfl, rfl, key_of I3.hok eb, trivial⟩, dd, fun h' tk dd' hs => wpAny_pure ⟨.ref s.heap.objs.size, upd H2 s.heap.objs.size (.dT [(key, y)]), ?_, rfl, q2⟩⟩
  obtain ⟨o, es, ep, ho, h2, h3, h4, _, h5⟩ := dd'
  refine d_write I3 (by rw [e]; exact True.intro) hs ⟨o, ho⟩ ⟨by show 1 ≤ _; rw [sizeLine_eq]; omega, hd, _, ?_, o, es, ep, ho, h2, h3, h4, h5⟩
  show Paired _ _ [(key, b, u2)]
  refine .cons ⟨rfl, ?_, ry⟩ .nil
  rw [upd_ne (ne_of eb e (fun z => nomatch z))]
  exact eb
end R49
set_option Elab.async false
set_option linter.all false
set_option maxRecDepth 100000
set_option maxHeartbeats 4000000
namespace R49
open PySem PySem.Spec PyProof.Rows L2 SlX
section
variable {X : Cx} {CX : CXT} {C g : Addr} {n : Nat} {sp : Sp} {E : XK}
/-- len(x), x an instance with slots whose class has its own def -/
def rLenOwn (C : Addr) (sp : Sp) (E : XK) : List V → Hp → VK → Prop := fun xs H Q => ∃ a dx vs, xs = [V.ref a] ∧ Slt H a C dx vs ∧ sp [.ref a] H (fun z H' => ∃ i : Int, z = .int i ∧ 0 ≤ i ∧ i < 2 ^ 63 ∧ Q z H') E
theorem call_lenOwn (hs : PySem.W.findIn X.K (.ref C) "__len__" = some (some (.ref g))) (hf : PySem.W.isFn X.K (.ref g) = true) (F : FnR X.prog X.w X.K X.mg X.base CX n g sp) (hr : Room (n + 1) X.A) (hx : Passes CX X E) : CallR X (.builtin "len") (rLenOwn C sp E) := by
  intro pins s σ H xs us Q I r h
  obtain ⟨a, dx, vs, rfl, hsl, q⟩ := h
  obtain ⟨u, rfl, ru⟩ := r.one
  cases (show u = Value.ref a from ru)
  obtain ⟨sl, od, _, J, _⟩ := slt_inst I hsl
  obtain ⟨m, hF⟩ := I.fr
  have hr2 : Room n X.A.in1 := hr.in1
  refine PySem.W.len_K hF I.ok.mod.kin J hs hf (wpAny_mono (wpAny_call (run_at (us := [.ref a]) (ws := [.ref a]) F hr2 I.env0.in1 hx I (.cons rfl .nil) q)) (fun w s' z => ?_) fun _ _ x => x)
  obtain ⟨z', H', I', rz, i, ei, h0, h1, qz⟩ := z
  subst ei
  obtain ⟨t, e⟩ := (show ∃ t, w = Value.int i t from rz)
  cases e
  exact ⟨⟨h0, by omega⟩, .int i, H', I'.tok _, ⟨_, rfl⟩, qz⟩
/-- x in y, y an instance with slots whose class has its own def -/
def rInOwn (C : Addr) (sp : Sp) (E : XK) : V → V → Hp → VK → Prop := fun x y H Q => ∃ a dx vs, y = .ref a ∧ Slt H a C dx vs ∧ sp [.ref a, x] H (fun z H' => ∃ b, z = .bl b ∧ Q (.bl b) H') E
theorem op_inOwn (hs : PySem.W.findIn X.K (.ref C) "__contains__" = some (some (.ref g))) (hf : PySem.W.isFn X.K (.ref g) = true) (F : FnR X.prog X.w X.K X.mg X.base CX n g sp) (hr : Room n X.A) (hx : Passes CX X E) : OpR X (compareOp .In) (rInOwn C sp E) := by
  intro pins s σ H x y v u Q I rx ry h
  obtain ⟨a, dx, vs, rfl, ha, q⟩ := h
  cases (show u = Value.ref a from ry)
  obtain ⟨sl, od, _, J, _⟩ := slt_inst I ha
  obtain ⟨m, hF⟩ := I.fr
  refine PySem.W.in_K hF I.ok.mod.kin J hs hf ?_
  refine wpAny_mono (wpAny_call (run_fnR (us := [.ref a, v]) (vs := [.ref a, x]) F hr hx I (.cons rfl (.cons rx .nil)) q)) (fun w s' z => ?_) fun _ _ x => x
  obtain ⟨z', H', I', rz, b, eb, qz⟩ := z
  subst eb
  cases (show w = Value.bool b from rz)
  exact wpAny_pure ⟨.bl b, H', I', rfl, qz⟩
end
/-- C(..), the class at C in the i-th slot -/
def tMakeL (i : Nat) (C : Addr) (sp : Sp) (E : XK) (t : TA) : TE := fun σ H Q => σ[i]? = some (some (.ref C)) ∧ t σ H fun vs H1 => ∀ x dx, H1 x = none → H1 dx = none → dx ≠ x → sp (.ref x :: vs) (upd (upd H1 dx (.own x)) x (.ins C dx [])) (fun v H2 => v = .non ∧ Q (.ref x) H2) E
section
variable {X : Cx} {CX : CXT} {k i : Nat} {f C : Addr} {fd : FuncData} {ps : List Str} {sp : Sp} {E : XK} {x : Str} {p pos : Pos} {e : Expr} {es : List Expr} {t : TA}
theorem pe_makeL (M : Mk X.K C f) (F : FnOk X.prog X.w X.K X.mg X.base CX k f fd ps sp) (hr : Room (k + 1) X.A) (hN : X.N[i]? = some x) (hv : Vis X.env.scope x) (hb : Binds X.K fd ps []) (hx : Passes CX X E)
    (ha : PA X (e :: es) t) (hdb : (x == ("__debug__" : Str)) = false := by decide) (hcd : (x == ("__classdict__" : Str)) = false := by decide)
    (he : starEach (e :: es) X.env = (false, eval e X.env) :: starEach es X.env := by rfl) (hpl : (backTo pos (starEach es X.env)).any (·.1) = false := by rfl) :
    PE X (.Call (.Name x p) (e :: es) [] pos) (tMakeL i C sp E t) := by
  refine ⟨fun pins s σ H Q I h => ?_⟩
  obtain ⟨hs, ht⟩ := h
  refine wpAny_Call_Name_kw (thn ((pe_var (pos := p) hN hv hdb hcd).run pins s σ H (fun v H1 => v = .ref C ∧ H1 = H) I ⟨.ref C, hs, rfl, rfl⟩) fun u s1 ⟨v, H1, I1, r1, q1⟩ => ?_)
  obtain ⟨rfl, rfl⟩ := q1
  cases r1
  refine PySem.W.callWith_K (h₀ := X.base) I.ok.mod.kin M.kp (thn (ha.run pos pins s1 σ _ _ I1 ht) fun us s2 ⟨vs, H2, I2, r, q⟩ => ⟨I2.kIn, ?_⟩) he hpl
  exact run_make M F hr hb .nil hx I2 r (by simpa using q)
end
end R49
set_option Elab.async false
set_option linter.all false
set_option maxRecDepth 100000
set_option maxHeartbeats 4000000
/-! The text: the defs, where they stand, the facts of the head. -/
namespace R49
open PySem PySem.Spec PyProof.Rows L2
abbrev RW : PySem.W.OpenRow := PySem.W.OpenLaw.row PySem.Challenge.rw_pieceround_k49_shortest_walks_between_wh
def top (i : Nat) : Stmt := PySem.Challenge.pw_pieceround_k49_shortest_walks_between_wh.main.body.getD i (.Pass ⟨0, 0, 0, 0⟩)
def clsBody (s : Stmt) : List Stmt := match s with
  | .ClassDef _ _ _ b _ _ _ _ _ _ _ => b
  | _ => []
def meth (j : Nat) : Stmt := (clsBody (top 17)).getD j (.Pass ⟨0, 0, 0, 0⟩)
/-! ### where things stand -/
def gA (x : Str) (K : PySem.W.Frag) : Addr := He.ga K x
def mA (m : Str) (K : PySem.W.Frag) : Addr := He.ma K (gA "Order" K) m
def rA (T : String) (m : Str) (K : PySem.W.Frag) : Addr := match PySem.W.recIn K (mA m K) T with
  | some (.ref g :: _) => g
  | _ => 0
structure Df where
  at_ : PySem.W.Frag → Addr
  name : Str
  qual : Str
  st : Stmt
def gd (x : Str) (i : Nat) : Df := ⟨gA x, x, x, top i⟩
def dIsName : Df := gd "is_name" 10
def dIsRow : Df := gd "is_row" 13
def dEnds : Df := gd "block_ends" 14
def dRowIn : Df := gd "row_in" 15
def dNeedless : Df := gd "needless_in" 16
def dInit : Df := ⟨mA "__init__", "__init__", "Order.__init__", meth 1⟩
def dRead : Df := ⟨rA "classmethod" "read", "read", "Order.read", meth 2⟩
def dAbove : Df := ⟨rA "property" "above", "above", "Order.above", meth 3⟩
def dBelow : Df := ⟨rA "property" "below", "below", "Order.below", meth 4⟩
def dPlaces : Df := ⟨rA "property" "places", "places", "Order.places", meth 7⟩
def dRenamed : Df := ⟨mA "renamed", "renamed", "Order.renamed", meth 14⟩
def dLen : Df := ⟨mA "__len__", "__len__", "Order.__len__", meth 16⟩
def dContains : Df := ⟨mA "__contains__", "__contains__", "Order.__contains__", meth 17⟩
def dNaming : Df := gd "is_naming_of" 18
def dReqOrder : Df := gd "require_order" 19
def dReqWhole : Df := gd "require_whole" 20
def dIsWalked : Df := gd "is_walked" 25
def dIsCourse : Df := gd "is_course" 26
def dNext : Df := gd "next_places" 27
def dReqFew : Df := gd "require_few" 28
def dWalked : Df := gd "walked" 29
def dReqTwo : Df := gd "require_two" 30
def dBetween : Df := gd "walk_between" 31
def dJoined : Df := gd "are_joined" 32
def dIsWalk : Df := gd "is_walk" 33
def dWholeRows : Df := gd "are_whole_rows" 40
def dPut : Df := gd "put_behind" 41
def dLed : Df := gd "led_rows" 42
def dIsKinds : Df := gd "is_kinds" 43
def dAlong : Df := gd "rows_along" 44
def dBehind : Df := gd "rows_behind" 45
def dReqCourse : Df := gd "require_course" 46
def dOrdBehind : Df := gd "order_behind" 47
def dDice : Df := gd "_law_dice" 49
def dRoll : Df := gd "_law_roll" 50
def dPick : Df := gd "_law_pick" 51
def dMixed : Df := gd "_law_mixed" 52
def dNamesDrawn : Df := gd "_law_names_drawn" 53
def dLWhole : Df := gd "_law_is_whole" 54
def dRowsDrawn : Df := gd "_law_rows_drawn" 55
def dMoved : Df := gd "_law_moved_places" 56
def dReached : Df := gd "_law_class_reached" 57
def dWalkDrawn : Df := gd "_law_walk_drawn" 58
def dPairDrawn : Df := gd "_law_pair_drawn" 59
def dSpoilt : Df := gd "_law_spoilt" 60
def dGoes : Df := gd "_law_goes" 61
def dRight : Df := gd "_law_right" 62
def dLaw : Df := gd "law" 63
def dfs : List Df := [dIsName, dIsRow, dEnds, dRowIn, dNeedless, dInit, dRead, dAbove, dBelow, dPlaces, dRenamed, dLen, dContains, dNaming, dReqOrder, dReqWhole, dIsWalked, dIsCourse, dNext, dReqFew, dWalked, dReqTwo, dBetween, dJoined, dIsWalk,
  dWholeRows, dPut, dLed, dIsKinds, dAlong, dBehind, dReqCourse, dOrdBehind, dDice, dRoll, dPick, dMixed, dNamesDrawn, dLWhole, dRowsDrawn, dMoved, dReached, dWalkDrawn, dPairDrawn, dSpoilt, dGoes, dRight, dLaw]
/-! ### names of the module -/
def gloN1 : List Str := ["is_name", "is_row", "block_ends", "row_in", "needless_in", "Order", "is_naming_of", "require_order", "require_whole", "WALKED", "is_walked", "is_course", "next_places", "require_few", "walked", "require_two", "walk_between", "are_joined", "is_walk", "KINDS", "are_whole_rows"]
def gloN2 : List Str := ["put_behind", "led_rows", "is_kinds", "rows_along", "rows_behind", "require_course", "order_behind", "_law_dice", "_law_roll", "_law_pick", "_law_mixed", "_law_names_drawn", "_law_is_whole", "_law_rows_drawn", "_law_moved_places", "_law_class_reached", "_law_walk_drawn", "_law_pair_drawn", "_law_spoilt", "_law_goes", "_law_right", "law"]
def gloN : List Str := gloN1 ++ gloN2
def freeN : List Str := ["isinstance", "len", "all", "tuple", "sorted", "enumerate", "zip", "max", "min", "int", "str", "range", "list", "set", "abs", "dict"]
def intN : List (Str × Int) := [("MAX_LETTERS", 8), ("MAX_NAMES", 40), ("MAX_WALKED", 7), ("MAX_ROUNDS", 4000), ("MAX_COURSE", 4000)]
def strN : List (Str × Str) := [("LETTERS", "abcdefghijklmnopqrstuvwxyz"), ("UPPER", "upper"), ("LOWER", "lower"), ("EVEN", "even")]
def slotN : List (Str × Nat) := [("own_is_whole", 0), ("own_lower", 1), ("own_lower_at", 2), ("own_names", 3), ("own_needless", 4), ("own_places", 5), ("own_text", 6), ("own_upper", 7), ("own_upper_at", 8)]
def eqF {α : Type} [DecidableEq α] (a b : α) : Bool := decide (a = b)
theorem eqF_ok {α : Type} [DecidableEq α] {a b : α} (h : eqF a b = true) : a = b := of_decide_eq_true h
def oneF (K : PySem.W.Frag) : Bool :=
  (gloN.all fun x => (He.Fa.glo x).ok K) && ((freeN.all fun x => (He.Fa.free x).ok K) && ((intN.all fun p => (He.Fa.int p.1 p.2).ok K) && ((strN.all fun p => (He.Fa.str p.1 p.2).ok K) &&
  (He.tupB K "WALKED" [.str "upper", .str "lower"] && He.tupB K "KINDS" [.str "upper", .str "lower", .str "even"]))))
def clsF (K : PySem.W.Frag) : Bool :=
  PySem.W.plainGet K (gA "Order" K) Str.empty && (PySem.W.isClsIn K (gA "Order" K) && (PySem.W.plainOver K (gA "Order" K) && (He.eqO (PySem.W.findIn K (.ref (gA "Order" K)) "__setattr__") (some (some (.builtin "object.__setattr__"))) &&
  (He.eqO (PySem.W.findIn K (.ref (gA "Order" K)) "__class__") (some (some (.builtin "object.__class__"))) && (He.eqO (PySem.W.specialIn K (.builtin "object.__class__") "__get__") (some (some (.builtin "getset_descriptor.__get__"))) &&
  (eqF (PySem.W.takesIn K (.builtin "object.__class__")) (some true) && (eqF (PySem.W.mroIn K (gA "Order" K) (.type "object")) (some true) && (He.Fa.mkr "Order").ok K)))))))
def slotF (K : PySem.W.Frag) (f : Str) (i : Nat) : Bool :=
  He.eqO (PySem.W.findIn K (.ref (gA "Order" K)) f) (some (some (.ref (mA f K)))) && (He.eqO (PySem.W.specialIn K (.ref (mA f K)) "__get__") (some (some (.builtin "member_descriptor.__get__"))) && (eqF (PySem.W.takesIn K (.ref (mA f K))) (some true) &&
  (eqF (PySem.W.typeIn K (.ref (mA f K))) (some (.type "member_descriptor")) && eqF (PySem.W.slotIn K (mA f K) (gA "Order" K)) (some i))))
def recH (K : PySem.W.Frag) (p : Addr) (T : String) (g : Addr) : Bool := match PySem.W.recIn K p T with
  | some (.ref a :: _) => decide (a = g)
  | _ => false
def propF (K : PySem.W.Frag) (f : Str) : Bool :=
  He.eqO (PySem.W.findIn K (.ref (gA "Order" K)) f) (some (some (.ref (mA f K)))) && (He.eqO (PySem.W.specialIn K (.ref (mA f K)) "__get__") (some (some (.builtin "property.__get__"))) && (eqF (PySem.W.takesIn K (.ref (mA f K))) (some true) && recH K (mA f K) "property" (rA "property" f K)))
def ownF (K : PySem.W.Frag) (f : Str) : Bool := (He.Fa.meth "Order" f).ok K
def getOk (c : Option PySem.W.CFound) (p C : Addr) : Bool := match c with
  | some (.get (.builtin b) (.ref q) .none (.ref D)) => decide (b = "classmethod.__get__") && (decide (q = p) && decide (D = C))
  | _ => false
def readF (K : PySem.W.Frag) : Bool :=
  PySem.W.readsIn K (gA "Order" K) (.type "type") && (He.eqO (PySem.W.specialIn K (.ref (gA "Order" K)) "__getattribute__") (some (some (.builtin "type.__getattribute__"))) &&
  (getOk (PySem.W.findCls K (.ref (gA "Order" K)) (.type "type") "read") (mA "read" K) (gA "Order" K) && (recH K (mA "read" K) "classmethod" (rA "classmethod" "read" K) && PySem.W.fnIn K (rA "classmethod" "read" K))))
def allF (K : PySem.W.Frag) : Bool := oneF K && (clsF K && ((slotN.all fun p => slotF K p.1 p.2) && (propF K "above" && (propF K "below" && (propF K "places" && (ownF K "renamed" && (ownF K "__len__" && (ownF K "__contains__" && readF K))))))))
/-! ### the Hook -/
def fnO (K : PySem.W.Frag) (a : Addr) : He.FnW := match K.lookup a with
  | some ⟨_, _, .func fd, _⟩ => some (fd.name, fd.qualname, fd.params, fd.body, fd.scope, fd.globals, fd.closure, fd.builtins)
  | _ => none
def Df.val (d : Df) : He.FnW := some (d.name, d.qual, defArgs d.st, .stmts (defBody d.st), defScope d.st, mainGlobals, [], builtinsNs)
def Df.ok (K : PySem.W.Frag) (d : Df) : Bool := PySem.W.keepIn K (.ref (d.at_ K)) && (match K.lookup (d.at_ K) with
  | some ⟨_, _, .func fd, _⟩ => PySem.W.codeIn K fd.code d.qual && (He.dflB K fd.defaults [] && He.kwdB K fd.kwdefaults [])
  | _ => false)
theorem Df.funD {K : PySem.W.Frag} {d : Df} (e : fnO K (d.at_ K) = d.val) (c : d.ok K = true) : ∃ fd, FunD K d.name d.qual (defArgs d.st) (defBody d.st) (defScope d.st) [] [] (d.at_ K) fd := by
  obtain ⟨kp, c2⟩ := He.ba c
  unfold fnO at e
  cases q : K.lookup (d.at_ K) with
  | none =>
    rw [q] at c2
    cases c2
  | some o =>
    obtain ⟨oc, od, dt, osl⟩ := o
    rw [q] at c2 e
    cases dt with
    | func fd =>
      obtain ⟨n1, n2, n3, n4, n5, n6, n7, n8, n9, n10, n11, n12, n13, n14, n15⟩ := fd
      have e2 : (some (n1, n2, n3, n4, n5, n6, n7, n15) : He.FnW) = some (d.name, d.qual, defArgs d.st, .stmts (defBody d.st), defScope d.st, mainGlobals, [], builtinsNs) := e
      simp only [Option.some.injEq, Prod.mk.injEq] at e2
      obtain ⟨h1, h2, h3, h4, h5, h6, h7, h8⟩ := e2
      subst h1 h2 h3 h4 h5 h6 h7 h8
      have c3 : (PySem.W.codeIn K n13 d.qual && (He.dflB K n8 [] && He.kwdB K n9 [])) = true := c2
      obtain ⟨k1, k2⟩ := He.ba c3
      obtain ⟨k3, k4⟩ := He.ba k2
      exact ⟨_, ⟨oc, od, n8, n9, n10, n11, n12, n13, n14, osl, rfl, q, k1, He.dflB_ok k3, He.kwdB_ok k4⟩, kp⟩
    | _ => cases c2
abbrev AlO : Type := Bool × List He.FnW
def obsK (K : PySem.W.Frag) : AlO := (allF K && dfs.all fun d => d.ok K, dfs.map fun d => fnO K (d.at_ K))
def valK : AlO := (true, dfs.map Df.val)
def asO (g : Addr → Option Obj) : Nat → List Addr
  | 0 => [mainGlobals, cStatics]
  | n + 1 => He.growD g (asO g n)
def obsO (g : Addr → Option Obj) : AlO := obsK (He.frG g (asO g 5))
def SaysO (K : PySem.W.Frag) : Prop := obsK K = valK
def hkO : PySem.W.Hook where
  α := AlO
  obs := fun s => obsO s.heap.get?
  val := fun _ => valK
  says := fun _ h => ∃ K : PySem.W.Frag, K.In h ∧ SaysO K
  of := fun _ _ e => ⟨_, He.frG_in, e⟩
  keeps := fun _ _ _ ⟨K, hK, c⟩ k => ⟨K, PySem.W.Frag.In.keeps hK k, c⟩
def obO (s : PySem.W.SharedT) : AlO := obsO (HandSHeadRun.getT s)
theorem obO_eq (s : PySem.W.SharedT) : obO s = hkO.obs s.abs := by
  have e : HandSHeadRun.getT s = s.abs.heap.get? := funext (HandSHeadRun.getT_eq s)
  show obsO (HandSHeadRun.getT s) = obsO s.abs.heap.get?
  rw [e]
end R49
set_option Elab.async false
set_option linter.all false
set_option maxRecDepth 100000
set_option maxHeartbeats 0
namespace R49
open PySem PySem.W PySem.Calls PyProof.Rows
abbrev qv : Program := view RW.prog [63]
def names1 : List PySem.Str := ["_wall", "PieceError", "InvalidOrder", "InvalidCourse", "InvalidOperation", "TooMany", "MAX_LETTERS", "LETTERS", "is_name", "MAX_NAMES", "is_row", "block_ends", "row_in", "needless_in", "Order", "is_naming_of", "require_order", "require_whole", "MAX_WALKED", "MAX_ROUNDS", "WALKED", "is_walked", "is_course", "next_places", "require_few", "walked", "require_two", "walk_between", "are_joined", "is_walk"]
def names2 : List PySem.Str := ["KINDS", "MAX_COURSE", "UPPER", "LOWER", "EVEN", "are_whole_rows", "put_behind", "led_rows", "is_kinds", "rows_along", "rows_behind", "require_course", "order_behind", "_law_dice", "_law_roll", "_law_pick", "_law_mixed", "_law_names_drawn", "_law_is_whole", "_law_rows_drawn", "_law_moved_places", "_law_class_reached", "_law_walk_drawn", "_law_pair_drawn", "_law_spoilt", "_law_goes", "_law_right"]
def names : List PySem.Str := names1 ++ names2
theorem run (w : World) : HandSHeadRun.RunEq RW qv hkO obO 6000 names w := by
  intro os
  kernel_rfl
end R49
set_option Elab.async false
set_option linter.all false
set_option maxRecDepth 100000
set_option maxHeartbeats 4000000
namespace R49
open PySem PySem.Spec PyProof.Rows L2
/-! ### what the head tells -/
structure Txt (K : PySem.W.Frag) (mg : Str → Option Value) : Prop where
  glo : ∀ x : Str, x ∈ gloN → mg x = some (.ref (gA x K))
  free : ∀ x : Str, x ∈ freeN → mg x = none
  intc : ∀ (x : Str) (i : Int), (x, i) ∈ intN → ∃ t, mg x = some (.int i t)
  strc : ∀ (x y : Str), (x, y) ∈ strN → ∃ t, mg x = some (.str y t)
  wk : ∀ H, SqT K H (gA "WALKED" K) [.str "upper", .str "lower"]
  kd : ∀ H, SqT K H (gA "KINDS" K) [.str "upper", .str "lower", .str "even"]
  fn : ∀ d, d ∈ dfs → ∃ fd, FunD K d.name d.qual (defArgs d.st) (defBody d.st) (defScope d.st) [] [] (d.at_ K) fd
  cls : SlX.SCls K (gA "Order" K)
  isi : SlX.SIsi K (gA "Order" K)
  mkr : Mk K (gA "Order" K) (mA "__init__" K)
  slot : ∀ f i, (f, i) ∈ slotN → SlX.Slot1 K (gA "Order" K) f (mA f K) i
  pat : ∀ f : Str, f ∈ (["above", "below", "places"] : List Str) → PySem.W.findIn K (.ref (gA "Order" K)) f = some (some (.ref (mA f K))) ∧ PySem.W.specialIn K (.ref (mA f K)) "__get__" = some (some (.builtin "property.__get__")) ∧
    PySem.W.takesIn K (.ref (mA f K)) = some true ∧ ∃ rest, PySem.W.recIn K (mA f K) "property" = some (.ref (rA "property" f K) :: rest)
  own : ∀ f : Str, f ∈ (["renamed", "__len__", "__contains__"] : List Str) → Meth K (gA "Order" K) f (mA f K)
  rd : ClX.CRead K (gA "Order" K) (.type "type")
  cm : ClX.CMet K (gA "Order" K) (.type "type") "read" (mA "read" K) (rA "classmethod" "read" K)
theorem rec_ok {K : PySem.W.Frag} {p g : Addr} {T : String} (h : recH K p T g = true) : ∃ rest, PySem.W.recIn K p T = some (.ref g :: rest) := by
  unfold recH at h
  split at h
  · rename_i a r e
    rw [e, of_decide_eq_true h]
    exact ⟨r, rfl⟩
  · cases h
theorem get_ok {c : Option PySem.W.CFound} {p C : Addr} (h : getOk c p C = true) : c = some (.get (.builtin "classmethod.__get__") (.ref p) .none (.ref C)) := by
  unfold getOk at h
  split at h
  · rename_i b q D
    obtain ⟨h1, h2⟩ := He.ba h
    obtain ⟨h3, h4⟩ := He.ba h2
    rw [of_decide_eq_true h1, of_decide_eq_true h3, of_decide_eq_true h4]
  · cases h
theorem prop_ok {K : PySem.W.Frag} {f : Str} (h : propF K f = true) : PySem.W.findIn K (.ref (gA "Order" K)) f = some (some (.ref (mA f K))) ∧ PySem.W.specialIn K (.ref (mA f K)) "__get__" = some (some (.builtin "property.__get__")) ∧
    PySem.W.takesIn K (.ref (mA f K)) = some true ∧ ∃ rest, PySem.W.recIn K (mA f K) "property" = some (.ref (rA "property" f K) :: rest) := by
  obtain ⟨a, h⟩ := He.ba h
  obtain ⟨b, h⟩ := He.ba h
  obtain ⟨c, d⟩ := He.ba h
  exact ⟨He.eqO_ok a, He.eqO_ok b, eqF_ok c, rec_ok d⟩
theorem slot_ok {K : PySem.W.Frag} {f : Str} {i : Nat} (hi : i < 1000) (h : slotF K f i = true) : SlX.Slot1 K (gA "Order" K) f (mA f K) i := by
  obtain ⟨a, h⟩ := He.ba h
  obtain ⟨b, h⟩ := He.ba h
  obtain ⟨c, h⟩ := He.ba h
  obtain ⟨d, e⟩ := He.ba h
  exact ⟨He.eqO_ok a, He.eqO_ok b, eqF_ok c, eqF_ok d, eqF_ok e, hi⟩
theorem txt_of {K : PySem.W.Frag} {h : Heap} {mg : Str → Option Value} (X : K.In h) (G : h.Ns mainGlobals mg) (c : SaysO K) : Txt K mg := by
  have c1 : (allF K && dfs.all fun d => d.ok K) = true := congrArg (fun z : AlO => z.1) c
  have c2 : dfs.map (fun d => fnO K (d.at_ K)) = dfs.map Df.val := congrArg (fun z : AlO => z.2) c
  obtain ⟨ha, hd⟩ := He.ba c1
  obtain ⟨h1, ha⟩ := He.ba ha
  obtain ⟨h2, ha⟩ := He.ba ha
  obtain ⟨h3, ha⟩ := He.ba ha
  obtain ⟨p1, ha⟩ := He.ba ha
  obtain ⟨p2, ha⟩ := He.ba ha
  obtain ⟨p3, ha⟩ := He.ba ha
  obtain ⟨o1, ha⟩ := He.ba ha
  obtain ⟨o2, ha⟩ := He.ba ha
  obtain ⟨o3, hr⟩ := He.ba ha
  obtain ⟨g1, h1⟩ := He.ba h1
  obtain ⟨g2, h1⟩ := He.ba h1
  obtain ⟨g3, h1⟩ := He.ba h1
  obtain ⟨g4, h1⟩ := He.ba h1
  obtain ⟨g5, g6⟩ := He.ba h1
  obtain ⟨k1, h2⟩ := He.ba h2
  obtain ⟨k2, h2⟩ := He.ba h2
  obtain ⟨k3, h2⟩ := He.ba h2
  obtain ⟨k4, h2⟩ := He.ba h2
  obtain ⟨k5, h2⟩ := He.ba h2
  obtain ⟨k6, h2⟩ := He.ba h2
  obtain ⟨k7, h2⟩ := He.ba h2
  obtain ⟨k8, k9⟩ := He.ba h2
  obtain ⟨r1, hr⟩ := He.ba hr
  obtain ⟨r2, hr⟩ := He.ba hr
  obtain ⟨r3, hr⟩ := He.ba hr
  obtain ⟨r4, r5⟩ := He.ba hr
  refine {
    glo := fun x hx => He.glo_ok X G (List.all_eq_true.mp g1 x hx)
    free := fun x hx => He.free_ok X G (List.all_eq_true.mp g2 x hx)
    intc := fun x i hx => He.int_ok X G (List.all_eq_true.mp g3 _ hx)
    strc := fun x y hx => He.str_ok X G (List.all_eq_true.mp g4 _ hx)
    wk := fun H => He.tupB_ok g5 H
    kd := fun H => He.tupB_ok g6 H
    fn := fun d hx => ?_
    cls := ⟨k1, k2, k3, He.eqO_ok k4⟩
    isi := ⟨He.eqO_ok k5, He.eqO_ok k6, eqF_ok k7, eqF_ok k8⟩
    mkr := He.mkr_ok k9
    slot := fun f i hx => slot_ok ?_ (List.all_eq_true.mp h3 _ hx)
    pat := fun f hx => ?_
    own := fun f hx => ?_
    rd := ⟨r1, He.eqO_ok r2⟩
    cm := ⟨get_ok r3, rec_ok r4, r5⟩ }
  · obtain ⟨i, hi⟩ := List.getElem?_of_mem hx
    have e : (dfs.map fun d => fnO K (d.at_ K))[i]? = (dfs.map Df.val)[i]? := by rw [c2]
    rw [List.getElem?_map, List.getElem?_map, hi] at e
    exact Df.funD (Option.some.inj e) (List.all_eq_true.mp hd d hx)
  · have : ∀ p ∈ slotN, p.2 < 1000 := by decide
    exact this _ hx
  · simp only [List.mem_cons, List.not_mem_nil, or_false] at hx
    rcases hx with rfl | rfl | rfl
    · exact prop_ok p1
    · exact prop_ok p2
    · exact prop_ok p3
  · simp only [List.mem_cons, List.not_mem_nil, or_false] at hx
    rcases hx with rfl | rfl | rfl
    · exact He.meth_ok o1
    · exact He.meth_ok o2
    · exact He.meth_ok o3
theorem mem_b {x : Str} {l : List Str} (h : (l.any fun y => decide (x = y)) = true) : x ∈ l := by
  obtain ⟨y, hy, e⟩ := List.any_eq_true.mp h
  rw [of_decide_eq_true e]
  exact hy
section
variable {K : PySem.W.Frag} {mg : Str → Option Value}
theorem Txt.g (T : Txt K mg) (x : Str) (h : (gloN.any fun y => decide (x = y)) = true := by decide +kernel) : mg x = some (.ref (gA x K)) := T.glo x (mem_b h)
theorem Txt.f (T : Txt K mg) (x : Str) (h : (freeN.any fun y => decide (x = y)) = true := by decide +kernel) : mg x = none := T.free x (mem_b h)
theorem Txt.i (T : Txt K mg) (x : Str) (i : Int) (h : (intN.any fun p => decide (p = (x, i))) = true := by decide +kernel) : ∃ t, mg x = some (.int i t) := by
  obtain ⟨y, hy, e⟩ := List.any_eq_true.mp h
  exact T.intc x i (of_decide_eq_true e ▸ hy)
theorem Txt.s (T : Txt K mg) (x y : Str) (h : (strN.any fun p => decide (p = (x, y))) = true := by decide +kernel) : ∃ t, mg x = some (.str y t) := by
  obtain ⟨z, hz, e⟩ := List.any_eq_true.mp h
  exact T.strc x y (of_decide_eq_true e ▸ hz)
theorem Txt.sl (T : Txt K mg) (f : Str) (i : Nat) (h : (slotN.any fun p => decide (p = (f, i))) = true := by decide +kernel) : SlX.Slot1 K (gA "Order" K) f (mA f K) i := by
  obtain ⟨z, hz, e⟩ := List.any_eq_true.mp h
  exact T.slot f i (of_decide_eq_true e ▸ hz)
end
/-! ### a def that may be called -/
structure Cal (P : Program) (w : World) (K : PySem.W.Frag) (mg : Str → Option Value) (base : Heap) (k : Nat) (d : Df) (ps : List Str) (sp : Sp) : Prop where
  ex : ∃ fd, FnOk P w K mg base CX0 k (d.at_ K) fd ps sp ∧ L2.Binds K fd ps []
  kp : PySem.W.keepIn K (.ref (d.at_ K)) = true
section
variable {P : Program} {w : World} {K : PySem.W.Frag} {mg : Str → Option Value} {base : Heap} {k : Nat} {d : Df} {ps N : List Str} {sp : Sp}
theorem Cal.of (T : Txt K mg) (hd : d ∈ dfs) (S : FnScope N ps (defScope d.st))
    (hb : ∀ (kV doc pm : Value) (an : Option Addr) (cdv ct : Value) (us : List Value), us.length = ps.length → bindArgs (PySem.W.fnOf d.name d.qual (defArgs d.st) (defBody d.st) (defScope d.st) .none kV doc pm an cdv ct) ⟨us, []⟩ = pure (ps.zip us))
    (len : ∀ vs H Q E, sp vs H Q E → vs.length = ps.length)
    (hbody : ∀ (cdv : Value) (A : Around) (outer : List Env) (s : Shared) (H : Hp) (vs : List V) (Q : VK) (E : XK), Room k (A.deeper (envOfC d.qual (defScope d.st) s.heap.objs.size (d.at_ K) cdv)) → sp vs H Q E →
      ∃ t, PSs (cxOf CX0 P w K mg base N d.qual (defScope d.st) (d.at_ K) cdv A outer s H E).nox (defBody d.st) t ∧ t { nx := fun _ H' => Q .non H', rt := Q } (start N vs) H) : Cal P w K mg base (k + 1) d ps sp := by
  obtain ⟨fd, F⟩ := T.fn d hd
  refine ⟨⟨fd, F.ok S len fun cdv A outer s H vs Q E hr h => ?_, F.bindsN hb⟩, F.kp⟩
  obtain ⟨t, h1, h2⟩ := hbody cdv A outer s H vs Q E hr h
  exact ⟨t, h1.nox, h2⟩
theorem Cal.mono {j : Nat} (c : Cal P w K mg base k d ps sp) (h : k ≤ j) : Cal P w K mg base j d ps sp := by
  obtain ⟨⟨fd, F, b⟩, kp⟩ := c
  exact ⟨⟨fd, F.mono h, b⟩, kp⟩
theorem Cal.r (c : Cal P w K mg base k d ps sp) : FnR P w K mg base CX0 k (d.at_ K) sp := by
  obtain ⟨⟨fd, F, b⟩, kp⟩ := c
  have z := F.raw b .nil
  exact z.imp fun vs H Q E h => by simpa using h
end
section
variable {X : Cx} {k : Nat} {d : Df} {ps : List Str} {sp : Sp} {x : Str} {p pos : Pos} {e : Expr} {es : List Expr} {t : TA}
theorem pe_cal (c : Cal X.prog X.w X.K X.mg X.base k d ps sp) (hr : Room k X.A) (hm : X.mg x = some (.ref (d.at_ X.K))) (ha : PA X (e :: es) t) (hg : Gl X x := by rfl)
    (hdb : (x == ("__debug__" : Str)) = false := by decide) (he : starEach (e :: es) X.env = (false, eval e X.env) :: starEach es X.env := by rfl) (hpl : (backTo pos (starEach es X.env)).any (·.1) = false := by rfl) :
    PE X (.Call (.Name x p) (e :: es) [] pos) (tCall sp [] E0 t) := by
  obtain ⟨⟨fd, F, b⟩, kp⟩ := c
  exact pe_call F hr hg hm kp b .nil pass0 ha hdb he hpl
end
/-! ### heaps -/
theorem same_upd {H : Hp} {p : Addr} {o : HO} (h : H p = none) : Same H (upd H p o) := fun b x e => by
  rw [upd_ne (ne_of_none e h)]
  exact e
theorem Same.seqT {K : PySem.W.Frag} {H H' : Hp} {a : Addr} {xs : List V} (e : Same H H') (h : SqT K H a xs) : SqT K H' a xs := by
  rcases h with h | h
  · rcases h with h | ⟨o, h⟩
    · exact .inl (.inl (e _ _ h))
    · exact .inl (.inr ⟨o, e _ _ h⟩)
  · exact .inr h
/-- the values of places -/
def iV (p : List Nat) : List V := p.map fun (n : Nat) => V.int (n : Int)
def iK (p : List Nat) : List L2.Key := p.map fun (n : Nat) => (Sum.inl (n : Int) : L2.Key)
theorem iK_kV (p : List Nat) : (iK p).map kV = iV p := by simp [iK, iV, kV]
theorem iK_inj {p q : List Nat} (h : iK p = iK q) : p = q := by
  unfold iK at h
  induction p generalizing q with
  | nil => cases q with
    | nil => rfl
    | cons => simp at h
  | cons a p ih => cases q with
    | nil => simp at h
    | cons b q =>
      simp only [List.map_cons, List.cons.injEq] at h
      obtain ⟨h1, h2⟩ := h
      have : (a : Int) = b := Sum.inl.inj h1
      rw [ih h2, Int.ofNat.inj this]
end R49
set_option Elab.async false
set_option linter.all false
set_option maxRecDepth 100000
set_option maxHeartbeats 4000000
namespace R49
open PySem PySem.Spec PyProof.Rows L2
/-! ### what a comprehension has made so far -/
def LcP (H1 : Hp) (D : Addr) (acc : Nat → List V) : Nat → Hp → Prop := fun i H => Same H1 H ∧ H D = some (.lst (acc i))
theorem LcP.start {H1 : Hp} {D : Addr} {acc : Nat → List V} (hD : H1 D = none) (h0 : acc 0 = []) : LcP H1 D acc 0 (upd H1 D (.lst [])) := ⟨same_upd hD, by rw [upd_same, h0]⟩
theorem LcP.step {H1 H H4 : Hp} {D : Addr} {acc : Nat → List V} {i : Nat} {y : V} (hD : H1 D = none) (p : LcP H1 D acc i H) (sm : Same H H4) (e : acc (i + 1) = acc i ++ [y]) (hz : (acc i).length < sizeLine) :
    ∃ a, H4 D = some (.lst a) ∧ a.length < sizeLine ∧ LcP H1 D acc (i + 1) (upd H4 D (.lst (a ++ [y]))) := by
  refine ⟨acc i, sm _ _ p.2, hz, fun b x hb => ?_, by rw [upd_same, e]⟩
  rw [upd_ne (ne_of_none hb hD)]
  exact sm _ _ (p.1 _ _ hb)
theorem LcP.skip {H1 H H4 : Hp} {D : Addr} {acc : Nat → List V} {i : Nat} (p : LcP H1 D acc i H) (sm : Same H H4) (e : acc (i + 1) = acc i) : LcP H1 D acc (i + 1) H4 := ⟨p.1.trans sm, by rw [e]; exact sm _ _ p.2⟩
def DcP (H1 : Hp) (D : Addr) (acc : Nat → List (L2.Key × V)) : Nat → Hp → Prop := fun i H => Same H1 H ∧ H D = some (.dK (acc i))
theorem DcP.start {H1 : Hp} {D : Addr} {acc : Nat → List (L2.Key × V)} (hD : H1 D = none) (h0 : acc 0 = []) : DcP H1 D acc 0 (upd H1 D (.dK [])) := ⟨same_upd hD, by rw [upd_same, h0]⟩
theorem DcP.step {H1 H H4 : Hp} {D : Addr} {acc : Nat → List (L2.Key × V)} {i : Nat} {k : L2.Key} {y : V} {z : V} (hD : H1 D = none) (p : DcP H1 D acc i H) (sm : Same H H4) (ez : z = kV k) (e : acc (i + 1) = putK (acc i) k y) (hz : (acc i).length < sizeLine) :
    ∃ a k', z = kV k' ∧ H4 D = some (.dK a) ∧ a.length < sizeLine ∧ DcP H1 D acc (i + 1) (upd H4 D (.dK (putK a k' y))) := by
  refine ⟨acc i, k, ez, sm _ _ p.2, hz, fun b x hb => ?_, by rw [upd_same, e]⟩
  rw [upd_ne (ne_of_none hb hD)]
  exact sm _ _ (p.1 _ _ hb)
theorem take_succ_map {α : Type} (f : α → V) {xs : List α} {i : Nat} {x : α} (h : xs[i]? = some x) : (xs.take (i + 1)).map f = (xs.take i).map f ++ [f x] := by
  rw [List.take_succ, h, List.map_append]; rfl
theorem len_take_small {α : Type} (f : α → V) {xs : List α} {i n : Nat} (hn : n < sizeLine) (h : xs.length ≤ n) : ((xs.take i).map f).length < sizeLine := by
  rw [List.length_map, List.length_take]; omega
section
variable {κ : Type} [DecidableEq κ]
theorem putK_new {k : κ} {v : V} {kvs : List (κ × V)} (h : ∀ p ∈ kvs, p.1 ≠ k) : putK kvs k v = kvs ++ [(k, v)] := by
  unfold putK
  rw [if_neg]
  intro z
  obtain ⟨p, hp, e⟩ := List.any_eq_true.mp z
  exact h p hp (of_decide_eq_true e)
theorem valV_at {kvs : List (κ × V)} {k : κ} {v : V} (nd : (kvs.map (·.1)).Nodup) (h : (k, v) ∈ kvs) : valV kvs k = some v := by
  induction kvs with
  | nil => cases h
  | cons p r ih =>
    rw [List.map_cons, List.nodup_cons] at nd
    rcases List.mem_cons.mp h with e | e
    · subst e
      exact valV_pos rfl
    · have h1 : p.1 ≠ k := fun z => nd.1 (z ▸ List.mem_map.mpr ⟨_, e, rfl⟩)
      rw [valV_neg h1]
      exact ih nd.2 e
theorem valV_none {k : κ} {kvs : List (κ × V)} (h : ∀ p ∈ kvs, p.1 ≠ k) : valV kvs k = none := by
  induction kvs with
  | nil => rfl
  | cons p r ih =>
    rw [valV_neg (h p (by simp))]
    exact ih fun q hq => h q (by simp [hq])
end
/-! ### short rules -/
section
variable {X : Cx} {x : Str} {pos : Pos}
theorem pe_gi {i : Int} (h : ∃ t, X.mg x = some (.int i t)) (hg : Gl X x := by rfl) (hd : (x == ("__debug__" : Str)) = false := by decide) : PE X (.Name x pos) (tC (.int i)) := by
  obtain ⟨t, e⟩ := h
  exact pe_glob hg e ⟨_, rfl⟩ hd
theorem pe_gs {y : Str} (h : ∃ t, X.mg x = some (.str y t)) (hg : Gl X x := by rfl) (hd : (x == ("__debug__" : Str)) = false := by decide) : PE X (.Name x pos) (tC (.str y)) := by
  obtain ⟨t, e⟩ := h
  exact pe_glob hg e ⟨_, rfl⟩ hd
theorem pe_gr {a : Addr} (h : X.mg x = some (.ref a)) (hg : Gl X x := by rfl) (hd : (x == ("__debug__" : Str)) = false := by decide) : PE X (.Name x pos) (tC (.ref a)) := pe_glob hg h rfl hd
theorem pe_tyn {n : String} (hm : X.mg x = none) (hg : Gl X x := by rfl) (hv : bootBuiltins x = some (.type n) := by decide +kernel) (hn : x ≠ "__name__" := by decide) (hd : (x == ("__debug__" : Str)) = false := by decide) : PE X (.Name x pos) (tC (.ty n)) := pe_bltn hg hm hv rfl hn hd
variable {k : Nat} {ps : List Str} {sp : Sp} {p : Pos} {e : Expr} {es : List Expr} {t : TA}
theorem pe_order (T : Txt X.K X.mg) (c : Cal X.prog X.w X.K X.mg X.base k dInit ps sp) (hr : Room (k + 1) X.A) (ha : PA X (e :: es) t) (hg : Gl X "Order" := by rfl)
    (he : starEach (e :: es) X.env = (false, eval e X.env) :: starEach es X.env := by rfl) (hpl : (backTo pos (starEach es X.env)).any (·.1) = false := by rfl) :
    PE X (.Call (.Name "Order" p) (e :: es) [] pos) (tMake (gA "Order" X.K) sp [] E0 t) := by
  obtain ⟨⟨fd, F, b⟩, kp⟩ := c
  exact pe_make T.mkr F hr hg (T.g "Order") b .nil pass0 ha (by decide) he hpl
end
/-! ### short answers -/
theorem itT {c : Bool} {A B : Prop} (h : c = true) (q : A) : if c = true then A else B := by rw [if_pos h]; exact q
theorem itF {c : Bool} {A B : Prop} (h : c = false) (q : B) : if c = true then A else B := by rw [if_neg (by rw [h]; exact Bool.false_ne_true)]; exact q
theorem itE {c : Bool} {A B : Prop} (h1 : c = true → A) (h2 : c = false → B) : if c = true then A else B := by
  cases c with
  | true => exact itT rfl (h1 rfl)
  | false => exact itF rfl (h2 rfl)
theorem kit_self {K : PySem.W.Frag} {t : Value} (h : (t == t) = true) : PySem.W.kitOne K t t = some true := by unfold PySem.W.kitOne; rw [if_pos h]
theorem size_big : 100000 < sizeLine := by rw [sizeLine_eq]; decide
end R49
set_option Elab.async false
set_option linter.all false
set_option maxRecDepth 100000
set_option maxHeartbeats 4000000
/-! Own rules 7: tuples that are known to have no own dict (t.index is asked of them), dicts over such tuples. -/
namespace R49
open PySem PySem.Spec PyProof.Rows L2
/-- at a the tuple of these keys, locked, without an own dict -/
def FT (H : Hp) (a : Addr) (ks : List L2.Key) : Prop := ∃ o, H a = some (.frz o (.tup (ks.map kV))) ∧ o.dict = none
def PT (H : Hp) (a : Addr) (p : List Nat) : Prop := FT H a (iK p)
theorem PT.mk {H : Hp} {a : Addr} {p : List Nat} {o : Obj} (h : H a = some (.frz o (.tup (iV p)))) (d : o.dict = none) : PT H a p := ⟨o, by rw [iK_kV]; exact h, d⟩
theorem FT.same {H H' : Hp} {a : Addr} {ks : List L2.Key} (s : Same H H') (h : FT H a ks) : FT H' a ks := let ⟨o, e, d⟩ := h; ⟨o, s _ _ e, d⟩
theorem PT.same {H H' : Hp} {a : Addr} {p : List Nat} (s : Same H H') (h : PT H a p) : PT H' a p := FT.same s h
theorem PT.sq {K : PySem.W.Frag} {H : Hp} {a : Addr} {p : List Nat} (h : PT H a p) : SqT K H a (iV p) := by
  obtain ⟨o, e, _⟩ := h
  rw [iK_kV] at e
  exact .inl (.inr ⟨o, e⟩)
theorem PT.some {H : Hp} {a : Addr} {p : List Nat} (h : PT H a p) : ∃ o, H a = Option.some o := let ⟨o, e, _⟩ := h; ⟨_, e⟩
theorem PT.uniq {H : Hp} {a : Addr} {p q : List Nat} (h : PT H a p) (h' : PT H a q) : p = q := by
  obtain ⟨o, e, _⟩ := h
  obtain ⟨o', e', _⟩ := h'
  rw [e] at e'
  have := Option.some.inj e'
  injection this with h1 h2
  injection h2 with h2
  exact iK_inj (kVs_inj h2)
section
variable {X : Cx} {pins : List (Addr × Obj)} {σ : L2.St} {H : Hp} {s : Shared}
theorem ft_at {a : Addr} {ks : List L2.Key} (I : Inv X pins σ H s) (h : FT H a ks) : ks.length ≤ sizeLine ∧ ∃ (o : Obj) (its : List Value) (n : Nat), s.heap.get? a = some o ∧ o.dict = none ∧ o.cls = .type "tuple" ∧ o.data = .seq its.toArray n ∧ Vals (ks.map kV) its := by
  obtain ⟨o, e, d⟩ := h
  obtain ⟨h1, h2, its, r, o', h3, h4, n, h5⟩ := (show ObjOk X.prog X.w H s.heap a (.frz o (.tup (ks.map kV))) from I.hok a _ e)
  rw [h1] at h3
  cases h3
  exact ⟨by simpa using h2, o, its, n, h1, d, h4, h5, r⟩
theorem ft_key {a : Addr} {ks : List L2.Key} {P : Program} {w : World} {h : Heap} (ok : HOk P w H h) (e : FT H a ks) : (tupleKind (mixKind P w)).is h ks a := by
  obtain ⟨o, e, d⟩ := e
  obtain ⟨h1, h2, its, r, o', h3, h4, n, h5⟩ := (show ObjOk P w H h a (.frz o (.tup (ks.map kV))) from ok a _ e)
  exact ⟨o', its.toArray, n, h3, h4, h5, by simpa using items_are r⟩
end
/-! ### making such tuples -/
section
variable {X : Cx}
theorem cr_tupP : CallR X (.type "tuple") (fun xs H Q => ∃ p ys, xs = [.ref p] ∧ SqL X.K H p ys ∧ ∀ (o : Obj) l, o.dict = none → H l = none → Q (.ref l) (upd H l (.frz o (.tup ys)))) := by
  intro pins s σ H xs us Q I r h
  obtain ⟨p, ys, rfl, hq, q⟩ := h
  obtain ⟨u, rfl, rx⟩ := vals1 r
  cases rx
  obtain ⟨its, r', pl, hz⟩ := I.list hq
  have hlen := r'.length
  refine call_tuple_list pl.isList (fun h' kp => ?_) (by simp only [List.size_toArray] <;> omega)
  have I1 : Inv X pins σ H { s with heap := h' } := I.kept (t' := s.toks) kp
  have I2 : Inv X pins σ (upd H h'.objs.size (.frz { cls := .type "tuple", data := .seq its.toArray } (.tup ys))) { s with heap := h'.push { cls := .type "tuple", data := .seq its.toArray } } :=
    I1.laid (t' := s.toks) (fun b o e => Heap.get?_push_of_some _ e) (Nat.le_refl _) (show ObjOk X.prog X.w _ _ _ (.frz _ (.tup ys)) from ⟨Heap.get?_push_size _ rfl, hz, its, r', IsTup.new _ _⟩)
  exact ⟨.ref h'.objs.size, _, I2, rfl, q _ _ rfl (I1.hok.fresh (Nat.le_refl _))⟩
def tTupP (t : TA) : TE := fun σ H Q => t σ H fun xs H1 => xs.length ≤ sizeLine ∧ ∀ (o : Obj) p, o.dict = none → H1 p = none → Q (.ref p) (upd H1 p (.frz o (.tup xs)))
theorem pe_tupP {es : List Expr} {t : TA} {pos : Pos} {x1} (h : PA X es t) : PE X (.Tuple es x1 pos) (tTupP t) := by
  refine ⟨fun pins s σ H Q I hq => ?_⟩
  refine wpAny_Tuple_spliced (thn (h.run pos pins s σ H _ I hq) fun us s1 ⟨xs, H1, I1, r, z, q⟩ => ⟨by rw [← r.length]; exact z, ?_⟩)
  have hf : H1 s1.heap.objs.size = none := I1.hok.fresh (Nat.le_refl _)
  refine ⟨.ref s1.heap.objs.size, upd H1 s1.heap.objs.size (.frz { cls := .type "tuple", data := .seq us.toArray } (.tup xs)), I1.laid (t' := s1.toks) (fun b u e => Heap.get?_push_of_some _ e) (Nat.le_refl _) ?_, rfl, q _ _ rfl hf⟩
  exact ⟨Heap.get?_push_size _ rfl, z, us, r, ⟨_, Heap.get?_push_size _ rfl, rfl, _, rfl⟩⟩
/-! ### t.index(n) -/
def tTIx (to te : TE) : TE := fun σ H Q => to σ H fun x H1 => ∃ a p, x = .ref a ∧ PT H1 a p ∧ te σ H1 fun y H2 => ∃ (z : Nat) (j : Nat), y = .int (z : Int) ∧ PT H2 a p ∧ p[j]? = some z ∧ (∀ m, m < j → p[m]? ≠ some z) ∧ Q (.int (j : Nat)) H2
variable {o e : Expr} {to te : TE} {apos cpos : Pos}
theorem pe_tindex (ho : PE X o to) (he : PE X e te)
    (hbase : attributeBase o "index" X.env (eval o X.env) = eval o X.env := by rfl)
    (hfew : ((backTo cpos (starEach [e] X.env)).all (fun x => !x.1) && (backToKw cpos (keywordEach [] X.env)).all (fun x => x.1.isSome)
      && decide ([e].length + ([] : List Keyword).length + (if ([] : List Keyword).isEmpty then 0 else 1) < 30)) = true := by rfl)
    (hline : (apos.endLine == cpos.line) = true := by rfl) (hs : starEach [e] X.env = (false, eval e X.env) :: starEach [] X.env := by rfl) (hplain : (backTo cpos (starEach [] X.env)).any (·.1) = false := by rfl) :
    PE X (.Call (.Attribute o "index" apos) [e] [] cpos) (tTIx to te) := by
  refine ⟨fun pins s σ H Q I h => ?_⟩
  refine wpAny_Call_method_late hbase hfew hline rfl (thn (ho.run pins s σ H _ I h) fun v s1 ⟨x, H1, I1, r1, a, p, ex, hp, q1⟩ => ?_)
  subst ex
  cases r1
  obtain ⟨_, ob, its, n, hob, hd, hc, hdt, rv⟩ := ft_at I1 hp
  refine ⟨"tuple", "tuple.index", PySem.F.plainAttrs_tuple, PySem.F.slot_tuple_index, PySem.F.type_tuple_index, ⟨ob, hob, hc⟩, fun b eb => ?_, ?_⟩
  · cases eb
    exact ⟨ob, hob, hd⟩
  have hA := (pa_cons he pa_nil hs).run cpos pins s1 σ H1 (fun xs H2 => ∃ (z : Nat) (j : Nat), xs = [.int (z : Int)] ∧ PT H2 a p ∧ p[j]? = some z ∧ (∀ m, m < j → p[m]? ≠ some z) ∧ Q (.int (j : Nat)) H2) I1 (by
    have e0 : te σ H1 (fun y H2 => ∃ (z : Nat) (j : Nat), [y] = [V.int (z : Int)] ∧ PT H2 a p ∧ p[j]? = some z ∧ (∀ m, m < j → p[m]? ≠ some z) ∧ Q (.int (j : Nat)) H2) := by
      have e1 : (fun (y : V) (H2 : Hp) => ∃ (z : Nat) (j : Nat), [y] = [V.int (z : Int)] ∧ PT H2 a p ∧ p[j]? = some z ∧ (∀ m, m < j → p[m]? ≠ some z) ∧ Q (.int (j : Nat)) H2) = fun y H2 => ∃ (z : Nat) (j : Nat), y = .int (z : Int) ∧ PT H2 a p ∧ p[j]? = some z ∧ (∀ m, m < j → p[m]? ≠ some z) ∧ Q (.int (j : Nat)) H2 := by
        funext y H2
        simp only [List.cons.injEq, and_true]
      rw [e1]
      exact q1
    exact e0)
  rw [hs] at hA ⊢
  refine Calls.callWith_builtin (by show (false || (backTo cpos (starEach [] X.env)).any (·.1)) = false; rw [hplain] <;> rfl) (Calls.evalArgs_plain ?_)
  refine thn hA fun us s2 ⟨vs, H2, I2, r2, z, j, evs, hp2, hj, hno, q⟩ => ?_
  subst evs
  refine mt_tindex pins s2 σ H2 (.ref a) [.int (z : Int)] (.ref a) us Q I2 rfl r2 ⟨a, p.map fun (n : Nat) => (n : Int), (z : Int), j, rfl, rfl, ?_, ?_, fun m hm => ?_, q⟩
  · have e3 : (p.map fun (n : Nat) => (n : Int)).map V.int = iV p := by simp [iV]
    rw [e3]
    exact hp2.sq
  · rw [List.getElem?_map, hj]; rfl
  · intro zz
    rw [List.getElem?_map] at zz
    cases qq : p[m]? with
    | none => rw [qq] at zz; cases zz
    | some y =>
      rw [qq] at zz
      have : y = z := Int.ofNat.inj (Option.some.inj zz)
      exact hno m hm (by rw [qq, this])
end
/-! ### dicts over such tuples -/
abbrev KX (H : Hp) : List (List L2.Key × V) → List (List L2.Key × Addr × Value) → Prop := Paired fun p q => p.1 = q.1 ∧ FT H q.2.1 p.1 ∧ RelV p.2 q.2.2
theorem KX.val {H : Hp} {kvs : List (List L2.Key × V)} {xs : List (List L2.Key × Addr × Value)} (r : KX H kvs xs) (k : List L2.Key) : RelO (valV kvs k) ((atKey xs k).map (·.2)) := by
  induction r with
  | nil => exact True.intro
  | @cons p q ps qs h t ih =>
    obtain ⟨p1, p2⟩ := p
    obtain ⟨q1, q2, q3⟩ := q
    obtain ⟨e, _, rv⟩ := h
    simp only at e rv
    subst e
    unfold valV atKey at *
    by_cases z : p1 = k
    · rw [List.find?_cons, List.find?_cons]
      simp only [z, decide_true, Option.map_some]
      exact rv
    · rw [List.find?_cons, List.find?_cons]
      simp only [z, decide_false]
      exact ih
theorem KX.keeps {H H' : Hp} {kvs : List (List L2.Key × V)} {xs : List (List L2.Key × Addr × Value)} (r : KX H kvs xs) (h : ∀ a ks, FT H a ks → FT H' a ks) : KX H' kvs xs := by
  induction r with
  | nil => exact .nil
  | cons z t ih => exact .cons ⟨z.1, h _ _ z.2.1, z.2.2⟩ ih
theorem KX.all {P : Program} {w : World} {H : Hp} {h : Heap} (ok : HOk P w H h) {kvs : List (List L2.Key × V)} {xs : List (List L2.Key × Addr × Value)} (r : KX H kvs xs) : ∀ x ∈ xs, (tupleKind (mixKind P w)).is h x.1 x.2.1 := by
  induction r with
  | nil => intro x hx; cases hx
  | cons z t ih =>
    intro x hx
    rcases List.mem_cons.mp hx with e | e
    · subst e
      rw [← z.1]
      exact ft_key ok z.2.1
    · exact ih x e
theorem KX.new {H : Hp} {kvs : List (List L2.Key × V)} {xs : List (List L2.Key × Addr × Value)} (r : KX H kvs xs) {k : List L2.Key} {b : Addr} {y : V} {u : Value} (hb : FT H b k) (ry : RelV y u) (hn : valV kvs k = none) :
    KX H (kvs ++ [(k, y)]) (storedH xs k b u) := by
  have h := r.val k
  rw [hn] at h
  have e : atKey xs k = none := by
    cases q : atKey xs k with
    | none => rfl
    | some p => rw [q] at h; exact h.elim
  rw [storedH_new e]
  exact Paired.snoc r ⟨rfl, hb, ry⟩
/-- the dict at d; its keys tuples -/
def DX (P : Program) (w : World) (H : Hp) (d : Addr) (kvs : List (List L2.Key × V)) : Prop := kvs.length ≤ sizeLine ∧ (d == sysModules) = false ∧ ∃ (o : Obj) (es : Array DictEntry) (ep : Nat) (xs : List (List L2.Key × Addr × Value)),
  H d = some (.ext fun h => h.get? d = some o) ∧ KX H kvs xs ∧ o.ExactDict ∧ o.data = .dict es ep ∧ es.toList = xs.map (entryOfKey (tupleKind (mixKind P w))) ∧ (xs.map (·.1)).Nodup
theorem DX.same {P : Program} {w : World} {H H' : Hp} {d : Addr} {kvs : List (List L2.Key × V)} (s : Same H H') (h : DX P w H d kvs) : DX P w H' d kvs := by
  obtain ⟨a, b, o, es, ep, xs, e, r, c⟩ := h
  exact ⟨a, b, o, es, ep, xs, s _ _ e, r.keeps fun a ks f => f.same s, c⟩
theorem ext_ok {P : Program} {w : World} {H : Hp} {h : Heap} {d : Addr} {o : Obj} (e : h.get? d = some o) : ObjOk P w H h d (.ext fun h => h.get? d = some o) := ⟨e, ⟨o, e⟩, fun h1 h2 p k => k _ p⟩
section
variable {X : Cx} {pins : List (Addr × Obj)} {σ : L2.St} {H : Hp} {s : Shared}
theorem dx_at {d : Addr} {kvs : List (List L2.Key × V)} (I : Inv X pins σ H s) (h : DX X.prog X.w H d kvs) : kvs.length ≤ sizeLine ∧ (d == sysModules) = false ∧ ∃ xs, KX H kvs xs ∧ s.heap.DictOfH (tupleKind (mixKind X.prog X.w)) d xs := by
  obtain ⟨a, b, o, es, ep, xs, e, r, h1, h2, h3, h4⟩ := h
  have ho : s.heap.get? d = some o := (I.hok d _ e).1
  exact ⟨a, b, xs, r, o, es, ep, ho, h1, h2, h3, r.all I.hok, h4⟩
/-- b in d -/
def rXIn (P : Program) (w : World) (neg : Bool) : V → V → Hp → VK → Prop := fun x y H Q => ∃ b d kvs k, x = .ref b ∧ y = .ref d ∧ DX P w H d kvs ∧ FT H b k ∧ Q (.bl (if neg then !(valV kvs k).isSome else (valV kvs k).isSome)) H
theorem op_xin (hu : X.A.units + 1 < cLine) : OpR X (compareOp .In) (rXIn X.prog X.w false) := by
  intro pins s σ H x y v u Q I rx ry h
  obtain ⟨b, d, kvs, k, rfl, rfl, hd, hb, q⟩ := h
  cases rx
  cases ry
  obtain ⟨z, hds, xs, r, dd⟩ := dx_at I hd
  refine wpAny_in_heap (tupleKind_room_in1 hu) (ft_key I.hok hb) hds dd ?_
  have e := (r.val k).isSome_eq
  rw [Option.isSome_map] at e
  rw [← e]
  exact ⟨.bl _, H, I.tok _, rfl, q⟩
theorem op_xnotin (hu : X.A.units + 1 < cLine) : OpR X (compareOp .NotIn) (rXIn X.prog X.w true) := by
  intro pins s σ H x y v u Q I rx ry h
  obtain ⟨b, d, kvs, k, rfl, rfl, hd, hb, q⟩ := h
  cases rx
  cases ry
  obtain ⟨z, hds, xs, r, dd⟩ := dx_at I hd
  refine wpAny_notIn_heap (tupleKind_room_in1 hu) (ft_key I.hok hb) hds dd ?_
  have e := (r.val k).isSome_eq
  rw [Option.isSome_map] at e
  rw [← e]
  exact ⟨.bl _, H, I.tok _, rfl, q⟩
end
section
variable {X : Cx} {o i value : Expr} {pos pos' : Pos} {td ty tv : TE}
/-- d[b] -/
def tXGet (P : Program) (w : World) (td ty : TE) : TE := fun σ H Q => td σ H fun x H1 => ty σ H1 fun y H2 => ∃ d b kvs k v, x = .ref d ∧ y = .ref b ∧ DX P w H2 d kvs ∧ FT H2 b k ∧ valV kvs k = some v ∧ Q v H2
theorem pe_xget (hu : X.A.units + 1 < cLine) (ho : PE X o td) (hi : PE X i ty) (hs : NoSl i) : PE X (.Subscript o i pos) (tXGet X.prog X.w td ty) := by
  refine ⟨fun pins s σ H Q I h => ?_⟩
  refine subD_of PySem.F.slot_dict_getitem.lookup hs (thn (ho.run pins s σ H _ I h) fun u s1 ⟨x, H1, I1, rx, q1⟩ => thn (hi.run pins s1 σ H1 _ I1 q1) fun iv s2 ⟨y, H2, I2, ry, d, b, kvs, k, v, ex, ey, hd, hb, hv, q2⟩ => ?_)
  subst ex ey
  cases rx
  cases ry
  obtain ⟨z, hds, xs, r, dd⟩ := dx_at I2 hd
  have hT : s2.TypeIs (.ref d) "dict" := by
    obtain ⟨o, es, ep, ho, hc, _⟩ := id dd
    exact ⟨o, ho, hc.1⟩
  refine ⟨hT, ?_⟩
  obtain ⟨w', hw, rw'⟩ := RelO.some_of (v := v) (o := (atKey xs k).map (·.2)) (by rw [← hv]; exact r.val k)
  obtain ⟨p, hp, hp2⟩ := Option.map_eq_some_iff.mp hw
  refine wpAny_getItem_heap (tupleKind_room_in1 hu) (ft_key I2.hok hb) dd hp ?_
  rw [hp2]
  exact ⟨v, H2, I2.tok _, rw', q2⟩
/-- d[b] = value, b not yet there -/
def sXPut (P : Program) (w : World) (td ty tv : TE) : TS := fun D σ H => tv σ H fun v H1 => td σ H1 fun x H2 => ty σ H2 fun y H3 => ∃ d b kvs k, x = .ref d ∧ y = .ref b ∧ DX P w H3 d kvs ∧ FT H3 b k ∧ valV kvs k = none ∧ kvs.length < sizeLine ∧
  ∀ H4, (∀ c, c ≠ d → H4 c = H3 c) → DX P w H4 d (kvs ++ [(k, v)]) → D.nx σ H4
theorem ft_other {H H' : Hp} {d : Addr} {φ : Heap → Prop} (hd : H d = some (.ext φ)) (k : ∀ c, c ≠ d → H' c = H c) : ∀ a ks, FT H a ks → FT H' a ks := by
  intro a ks h
  obtain ⟨o, e, n⟩ := h
  have ne : a ≠ d := fun z => by
    rw [z, hd] at e
    cases e
  exact ⟨o, by rw [k a ne]; exact e, n⟩
theorem ps_xput (hu : X.A.units + 1 < cLine) (ho : PE X o td) (hi : PE X i ty) (hv : PE X value tv) (hs : swapsWith value (some (.Subscript o i pos')) pos.line X.env = pure false) :
    PS X (.Assign [.Subscript o i pos'] value pos) (sXPut X.prog X.w td ty tv) := by
  refine ⟨fun pins s σ H D I h => ?_⟩
  refine wpAny_Assign_Subscript (thn (hv.run pins s σ H _ I h) fun r s1 ⟨v, H1, I1, rv, q1⟩ => thn (ho.run pins s1 σ H1 _ I1 q1) fun u s2 ⟨x, H2, I2, rx, q2⟩ => thn (hi.run pins s2 σ H2 _ I2 q2) fun iv s3 ⟨y, H3, I3, ry, d, b, kvs, k, ex, ey, hd, hb, hn, hl, q3⟩ => ?_) hs
  subst ex ey
  cases rx
  cases ry
  obtain ⟨z, hds, xs, rel, dd⟩ := dx_at I3 hd
  have hz : xs.length ≤ sizeLine := by rw [← Paired.length rel]; exact z
  refine wpAny_setItem_heap (hsz := hz) (tupleKind_room_in1 hu) (ft_key I3.hok hb) dd fun h' dd' hs => ?_
  obtain ⟨q, es, ep, hq, h2, h3, h4, _, h5⟩ := dd'
  have hmu : H3 d = some (.ext fun h => h.get? d = some hd.2.2.choose) := by
    obtain ⟨es, ep, xs, e, _⟩ := hd.2.2.choose_spec
    exact e
  have hk : ∀ c, c ≠ d → upd H3 d (.ext fun h => h.get? d = some q) c = H3 c := fun c hc => upd_ne hc
  refine ⟨σ, upd H3 d (.ext fun h => h.get? d = some q), d_write I3 (by rw [hmu]; exact True.intro) hs ⟨q, hq⟩ (ext_ok hq), q3 _ hk ⟨by rw [List.length_append]; exact hl, hds, q, es, ep, _, upd_same, (rel.new hb rv hn).keeps (ft_other hmu hk), h2, h3, h4, h5⟩⟩
/-- {b: value} -/
def tX1 (P : Program) (w : World) (tk tv : TE) : TE := fun σ H Q => ∀ (p : Addr) (φ : Heap → Prop), H p = none → tk σ (upd H p (.ext φ)) fun x H1 => tv σ H1 fun y H2 => H2 p = some (.ext φ) ∧ ∃ (b : Addr) (k : List L2.Key), x = .ref b ∧ FT H2 b k ∧
  ∀ H3, (∀ c, c ≠ p → H3 c = H2 c) → DX P w H3 p [(k, y)] → Q (.ref p) H3
theorem pe_x1 {k v : Expr} {tk tv : TE} (hu : X.A.units + 1 < cLine) (hk : PE X k tk) (hv : PE X v tv) : PE X (.Dict [some k] [v] pos) (tX1 X.prog X.w tk tv) := by
  refine ⟨fun pins s σ H Q I q => ?_⟩
  have hn := I.hok.fresh (Nat.le_refl s.heap.objs.size)
  have hnew : (s.heap.push { cls := .type "dict", data := .dict #[] }).get? s.heap.objs.size = some { cls := .type "dict", data := .dict #[] } := Heap.get?_push_size _ rfl
  have I1 := I.laid (a := s.heap.objs.size) (o := .ext fun h => h.get? s.heap.objs.size = some { cls := .type "dict", data := .dict #[] }) (h' := s.heap.push { cls := .type "dict", data := .dict #[] }) (t' := s.toks) (fun _ _ q => Heap.get?_push_of_some _ q) (Nat.le_refl _) (ext_ok hnew)
  have hshape := zip_pairTrees [some k] [v] X.env pos rfl rfl
  rw [arm_eval_Dict, hshape, dictDisplay_pairs (pairTrees [some k] [v] X.env pos) (fun z => nomatch z) (by show 1 < _ ; omega)]
  refine wpAny_bind (wpAny_standAt (wpAny_bind (wpAny_subDictH (knd := tupleKind (mixKind X.prog X.w)) (hu := by show X.A.units < cLine; omega) (Q := fun d s' => wpAny (model X.prog X.w) X.A (pure (Value.ref d)) _ X.xe s') (by show 1 ≤ 15; omega) ?_)))
  refine pairTrees_cons_walk (thn (hk.run pins _ σ _ _ I1 (q _ _ hn)) fun u s1 ⟨x, H1, I2, rx, q1⟩ => thn (hv.run pins s1 σ H1 _ I2 q1) fun u2 s2 ⟨y, H2, I3, ry, e, b, key, ex, eb, q2⟩ => pairTrees_nil_walk ?_)
  subst ex
  cases rx
  have hd : (s.heap.objs.size == sysModules) = false := beq_eq_false_iff_ne.mpr (Ne.symm (Nat.ne_of_lt I.big))
  have hob : s2.heap.get? s.heap.objs.size = some { cls := .type "dict", data := .dict #[] } := (I3.hok _ _ e).1
  have dd : s2.heap.DictOfH (tupleKind (mixKind X.prog X.w)) s.heap.objs.size [] := ⟨_, #[], 0, hob, ⟨rfl, rfl, rfl⟩, rfl, rfl, fun x hx => (by cases hx), List.nodup_nil⟩
  refine ⟨[(key, b, u2)], ⟨rfl, rfl, ft_key I3.hok eb, trivial⟩, dd, fun h' tk dd' hs => wpAny_pure ?_⟩
  obtain ⟨o, es, ep, ho, h2, h3, h4, _, h5⟩ := dd'
  have hk2 : ∀ c, c ≠ s.heap.objs.size → upd H2 s.heap.objs.size (.ext fun h => h.get? s.heap.objs.size = some o) c = H2 c := fun c hc => upd_ne hc
  refine ⟨.ref s.heap.objs.size, _, d_write I3 (by rw [e]; exact True.intro) hs ⟨o, ho⟩ (ext_ok ho), rfl, q2 _ hk2 ⟨by show 1 ≤ _; rw [sizeLine_eq]; omega, hd, o, es, ep, [(key, b, u2)], upd_same, .cons ⟨rfl, ft_other e hk2 _ _ eb, ry⟩ .nil, h2, h3, h4, h5⟩⟩
end
end R49
set_option Elab.async false
set_option linter.all false
set_option maxRecDepth 100000
set_option maxHeartbeats 4000000
namespace R49
open PySem PySem.Spec PyProof.Rows L2

/-! ### is_name -/
def letters : Str := "abcdefghijklmnopqrstuvwxyz"
def okName (x : Str) : Prop := 1 ≤ x.length ∧ x.length ≤ 8 ∧ ∀ c ∈ x.cps.toList, c ∈ letters.cps.toList
section
variable {P : Program} {w : World} {K : PySem.W.Frag} {mg : Str → Option Value} {base : Heap}
theorem sc_is_name : FnScope ["value", "sign"] ["value"] (defScope dIsName.st) := ⟨rfl, rfl, rfl, by decide +kernel, rfl, by decide +kernel, by decide +kernel⟩
def spIsName : Sp := fun vs H Q _ => ∃ x : Str, vs = [.str x] ∧ okName x ∧ ∀ H', Same H H' → Q (.bl true) H'
theorem ok_is_name (T : Txt K mg) : Cal P w K mg base 1 dIsName ["value"] spIsName := by
  refine Cal.of T (List.mem_of_getElem? (i := 0) rfl) sc_is_name (fun _ _ _ _ _ _ us hl => match us, hl with | [_], _ => rfl) (fun vs H Q E h => ?_) (fun cdv A outer s H vs Q E hr h => ?_)
  · obtain ⟨x, rfl, _⟩ := h
    rfl
  · obtain ⟨x, rfl, ⟨h1, h8, hc⟩, q⟩ := h
    refine ⟨_, PSs.nox (pss_cons (ps_if (PW.pt (pw_or (pt_not (pt_val (pe_callB call_isi (by rfl) (T.f "isinstance") (by decide +kernel) (pa_cons (pv 0) (pa_cons (pe_tyn (n := "str") (T.f "str")) pa_nil))))) (pw_or1 (pt_not (pt_chain op_le op_le pe_int (pe_callB call_len_str (by rfl) (T.f "len") PySem.boot_len (pa_cons (pv 0) pa_nil)) (pe_gi (T.i "MAX_LETTERS" 8)))))))
      (pss_one (ps_ret pe_bl))
      pss_nil)
      (pss_one (ps_ret (pe_callB (cr_all rfl) (by rfl) (T.f "all") (by decide +kernel) (pa_cons (pe_lc (own := [("sign", 1)]) (g := (gName 1)) (tt := tYes) rfl sc_is_name.nd (pi_str (pv 0)) (blkOk_by (N := ["value", "sign"]) (sc := defScope dIsName.st) (by decide +kernel)) (fun _ _ _ _ _ => (pg_name (i := 1) sc_is_name.nd rfl (Or.inl rfl))) (fun _ _ _ _ _ => pts_nil) (fun _ _ _ _ _ => (pe_cmpR op_in_sign (pv 1) (pe_gs (T.s "LETTERS" "abcdefghijklmnopqrstuvwxyz")) (by rfl)))) pa_nil))))), ?_⟩
    have hs : x.length ≤ sizeLine := by have := size_big; omega
    refine ⟨.str x, rfl, .str x, .ty "str", .type "str", .type "str", true, rfl, .ty _, .base (.str _), kit_self rfl, true, rfl, itF rfl ?_⟩
    refine ⟨.str x, rfl, x, rfl, hs, 1, x.length, rfl, rfl, _, rfl, itT (decide_eq_true (by omega)) ⟨_, _, rfl, rfl, _, rfl, itF (by simp; omega) ?_⟩⟩
    refine ⟨.str x, rfl, x, rfl, fun D hD => lc_it walk_str (LcP H D fun i => (List.replicate i true).map V.bl) (LcP.start hD rfl) (fun _ _ _ _ => trivial) (fun i v H3 H' hi p y => ?_) (fun H3 p => ?_)⟩
    · obtain ⟨rfl, c, hcx, rfl⟩ := y
      have hm : c ∈ letters.cps.toList := hc c (by rw [← Array.getElem?_toList] at hcx; exact List.mem_of_getElem? hcx)
      refine ⟨rfl, _, rfl, c, letters, rfl, rfl, ?_⟩
      have e : decide (c ∈ letters.cps.toList) = true := decide_eq_true hm
      rw [e]
      exact p.step hD (Same.refl _) (by simp [List.replicate_succ']) (by
        have h : x.cps.size ≤ 8 := h8
        have := size_big
        simp; omega)
    · have sm : Same H H3 := p.1
      refine ⟨D, List.replicate x.cps.size true, rfl, SqL.of p.2, ?_⟩
      have e : (List.replicate x.cps.size true).all id = true := by simp
      rw [e]
      exact q _ sm
end
end R49
set_option Elab.async false
set_option linter.all false
set_option maxRecDepth 100000
set_option maxHeartbeats 4000000
namespace R49
open PySem PySem.Spec PyProof.Rows L2
def sV (u : List Str) : List V := u.map V.str
theorem sV_at {u : List Str} {i : Nat} {v : V} (h : (sV u)[i]? = some v) : ∃ x, u[i]? = some x ∧ v = .str x := by
  unfold sV at h
  rw [List.getElem?_map] at h
  cases e : u[i]? with
  | none => rw [e] at h; cases h
  | some x => rw [e] at h; exact ⟨x, rfl, (Option.some.inj h).symm⟩
theorem iV_at {u : List Nat} {i : Nat} {v : V} (h : (iV u)[i]? = some v) : ∃ x : Nat, u[i]? = some x ∧ v = .int (x : Int) := by
  unfold iV at h
  rw [List.getElem?_map] at h
  cases e : u[i]? with
  | none => rw [e] at h; cases h
  | some x => rw [e] at h; exact ⟨x, rfl, (Option.some.inj h).symm⟩
theorem sV_len (u : List Str) : (sV u).length = u.length := List.length_map ..
theorem iV_len (u : List Nat) : (iV u).length = u.length := List.length_map ..
/-- the pairs of a dict over texts -/
def kvO (f : Nat → V) (u : List Str) : List (L2.Key × V) := u.zipIdx.map fun p => ((Sum.inr p.1 : L2.Key), f p.2)
theorem kvO_succ (f : Nat → V) {u : List Str} (nd : u.Nodup) {i : Nat} {x : Str} (h : u[i]? = some x) : kvO f (u.take (i + 1)) = putK (kvO f (u.take i)) (Sum.inr x) (f i) := by
  have hi : i < u.length := (List.getElem?_eq_some_iff.mp h).1
  have e : kvO f (u.take (i + 1)) = kvO f (u.take i) ++ [((Sum.inr x : L2.Key), f i)] := by
    unfold kvO
    rw [List.take_add_one, h, Option.toList_some, List.zipIdx_append, List.map_append]
    simp [List.length_take, Nat.min_eq_left (Nat.le_of_lt hi)]
  rw [e, putK_new]
  intro p hp ep
  unfold kvO at hp
  obtain ⟨⟨y, j⟩, hy, rfl⟩ := List.mem_map.mp hp
  have hy2 : y ∈ u.take i := by
    have := List.mem_zipIdx hy
    obtain ⟨_, _, e2⟩ := this
    rw [e2]
    exact List.getElem_mem _
  have hyx : y = x := Sum.inr.inj ep
  subst hyx
  have hs : u = u.take i ++ y :: u.drop (i + 1) := by
    obtain ⟨hi, rfl⟩ := List.getElem?_eq_some_iff.mp h
    simp
  rw [hs, List.nodup_append] at nd
  exact nd.2.2 y hy2 y (by simp) rfl
theorem kvO_len (f : Nat → V) (u : List Str) : (kvO f u).length = u.length := by simp [kvO]
theorem kvO_at (f : Nat → V) {u : List Str} (nd : u.Nodup) {x : Str} (h : x ∈ u) : valV (kvO f u) (Sum.inr x) = some (f (u.idxOf x)) := by
  have hi : u.idxOf x < u.length := List.idxOf_lt_length_of_mem h
  refine valV_at ?_ ?_
  · unfold kvO
    rw [List.map_map]
    have e : (u.zipIdx.map ((fun q : L2.Key × V => q.1) ∘ fun p : Str × Nat => ((Sum.inr p.1 : L2.Key), f p.2))) = (u.zipIdx.map Prod.fst).map (Sum.inr : Str → L2.Key) := by rw [List.map_map]; rfl
    rw [e, List.zipIdx_map_fst]
    exact nodup_inr nd
  · unfold kvO
    refine List.mem_map.mpr ⟨(x, u.idxOf x), ?_, rfl⟩
    refine List.mem_iff_getElem?.mpr ⟨u.idxOf x, ?_⟩
    rw [List.getElem?_zipIdx, List.getElem?_eq_getElem hi, List.getElem_idxOf]
    simp
section
variable {P : Program} {w : World} {K : PySem.W.Frag} {mg : Str → Option Value} {base : Heap}
/-! ### is_row -/
def okRow (u : List Str) : Prop := 1 ≤ u.length ∧ u.length ≤ 10 ∧ u.Nodup ∧ ∀ x ∈ u, okName x
theorem sc_is_row : FnScope ["value", "name"] ["value"] (defScope dIsRow.st) := ⟨rfl, rfl, rfl, by decide +kernel, rfl, by decide +kernel, by decide +kernel⟩
def spIsRow : Sp := fun vs H Q _ => ∃ a u, vs = [.ref a] ∧ H a = some (.tup (sV u)) ∧ okRow u ∧ ∀ H', Same H H' → Q (.bl true) H'
theorem ok_is_row (T : Txt K mg) : Cal P w K mg base 2 dIsRow ["value"] spIsRow := by
  have C_is_name := ok_is_name (P := P) (w := w) (base := base) T
  refine Cal.of T (List.mem_of_getElem? (i := 1) rfl) sc_is_row (fun _ _ _ _ _ _ us hl => match us, hl with | [_], _ => rfl) (fun vs H Q E h => ?_) (fun cdv A outer s H vs Q E hr h => ?_)
  · obtain ⟨a, u, rfl, _⟩ := h
    rfl
  · obtain ⟨a, u, rfl, ea, ⟨h1, h10, nd, hn⟩, q⟩ := h
    refine ⟨_, PSs.nox (pss_cons (ps_if (PW.pt (pw_or (pt_not (pt_val (pe_callB call_isi (by rfl) (T.f "isinstance") (by decide +kernel) (pa_cons (pv 0) (pa_cons (pe_tyn (n := "tuple") (T.f "tuple")) pa_nil))))) (pw_or (pt_not (pt_chain op_le op_le pe_int (pe_callB call_len_seq (by rfl) (T.f "len") PySem.boot_len (pa_cons (pv 0) pa_nil)) (pe_gi (T.i "MAX_NAMES" 40)))) (pw_or1 (pt_not (pt_val (pe_callB (cr_all rfl) (by rfl) (T.f "all") (by decide +kernel) (pa_cons (pe_lc (own := [("name", 1)]) (g := (gName 1)) (tt := tYes) rfl sc_is_row.nd (pi_tup (pv 0)) (blkOk_by (N := ["value", "name"]) (sc := defScope dIsRow.st) (by decide +kernel)) (fun _ _ _ _ _ => (pg_name (i := 1) sc_is_row.nd rfl (Or.inl rfl))) (fun _ _ _ _ _ => pts_nil) (fun _ _ _ _ _ => (pe_cal C_is_name (hr.mono (by decide)) (T.g "is_name") (pa_cons (pv 1) pa_nil)))) pa_nil))))))))
      (pss_one (ps_ret pe_bl))
      pss_nil)
      (pss_one (ps_ret (pe_cmpR op_eq (pe_callB call_lenD (by rfl) (T.f "len") PySem.boot_len (pa_cons (pe_dc (own := [("name", 1)]) (g := (gName 1)) (tt := tYes) rfl sc_is_row.nd (pi_tup (pv 0)) (blkOk_by (N := ["value", "name"]) (sc := defScope dIsRow.st) (by decide +kernel)) (fun _ _ _ _ _ => (pg_name (i := 1) sc_is_row.nd rfl (Or.inl rfl))) (fun _ _ _ _ _ => pts_nil) (fun _ _ _ _ _ => (pv 1)) (fun _ _ _ _ _ => pe_bl)) pa_nil)) (pe_callB call_len_seq (by rfl) (T.f "len") PySem.boot_len (pa_cons (pv 0) pa_nil)) (nomark _))))), ?_⟩
    have big := size_big
    have hl : (sV u).length = u.length := sV_len u
    refine ⟨.ref a, rfl, .ref a, .ty "tuple", .type "tuple", .type "tuple", true, rfl, .ty _, .base (.tup ea), kit_self rfl, true, rfl, itF rfl ?_⟩
    refine ⟨.ref a, rfl, a, sV u, rfl, .inr (SqT.of ea), 1, (sV u).length, rfl, rfl, _, rfl, itT (decide_eq_true (by omega)) ⟨_, _, rfl, rfl, _, rfl, itF (by simp; omega) ?_⟩⟩
    refine ⟨.ref a, rfl, a, rfl, ⟨_, SqT.of ea⟩, fun D hD => lc_it walk_tup (LcP H D fun i => (List.replicate i true).map V.bl) (LcP.start hD rfl) (fun _ _ _ p => SqT.of (p.1 _ _ ea)) (fun i v H3 H' hi p y => ?_) (fun H3 p => ?_)⟩
    · obtain ⟨rfl, hv⟩ := y
      obtain ⟨x, hx, rfl⟩ := sV_at hv
      refine ⟨rfl, _, rfl, x, rfl, hn x (List.mem_of_getElem? hx), fun H4 sm => p.step hD sm (by simp [List.replicate_succ']) (by simp; omega)⟩
    · refine ⟨D, List.replicate (sV u).length true, rfl, SqL.of p.2, _, rfl, itF (by simp) ?_⟩
      have ea3 : H3 a = some (.tup (sV u)) := p.1 _ _ ea
      refine ⟨.ref a, rfl, a, rfl, ⟨_, SqT.of ea3⟩, fun D2 hD2 => dc_it walk_tup (DcP H3 D2 fun i => kvO (fun _ => .bl true) (u.take i)) (DcP.start hD2 rfl) (fun _ _ _ p => SqT.of (p.1 _ _ ea3)) (fun i v H4 H' hi p4 y => ?_) (fun H4 p4 => ?_)⟩
      · obtain ⟨rfl, hv⟩ := y
        obtain ⟨x, hx, rfl⟩ := sV_at hv
        refine ⟨rfl, _, rfl, p4.step hD2 (Same.refl _) rfl (kvO_succ (fun _ => .bl true) nd hx) (by rw [kvO_len, List.length_take]; omega)⟩
      · have e4 : H4 D2 = some (.dK (kvO (fun _ => .bl true) (u.take (sV u).length))) := p4.2
        rw [List.take_of_length_le (by omega)] at e4
        refine ⟨D2, _, rfl, e4, .ref a, rfl, a, sV u, rfl, .inr (SqT.of (p4.1 _ _ ea3)), rfl, ?_⟩
        have e : decide (V.int ((kvO (fun _ => V.bl true) u).length : Nat) = V.int ((sV u).length : Nat)) = true := by rw [kvO_len, sV_len]; exact decide_eq_true rfl
        rw [e]
        exact q _ (p.1.trans p4.1)
/-! ### block_ends -/
theorem sc_block_ends : FnScope ["places", "found", "most", "index", "place"] ["places"] (defScope dEnds.st) := ⟨rfl, rfl, rfl, by decide +kernel, rfl, by decide +kernel, by decide +kernel⟩
def spEnds (K : PySem.W.Frag) : Sp := fun vs H Q _ => ∃ a p, vs = [.ref a] ∧ SqT K H a (iV p) ∧ p.length ≤ 10 ∧ ∀ H' D l, Same H H' → H' D = some (.lst l) → l.length = (K49.be p).length → Q (.ref D) H'
theorem ok_block_ends (T : Txt K mg) : Cal P w K mg base 1 dEnds ["places"] (spEnds K) := by
  refine Cal.of T (List.mem_of_getElem? (i := 2) rfl) sc_block_ends (fun _ _ _ _ _ _ us hl => match us, hl with | [_], _ => rfl) (fun vs H Q E h => ?_) (fun cdv A outer s H vs Q E hr h => ?_)
  · obtain ⟨a, u, rfl, _⟩ := h
    rfl
  · obtain ⟨a, p, rfl, ea, h10, q⟩ := h
    refine ⟨_, PSs.nox (pss_cons (ps_par (i := 1) (j := 2) (by rfl) sc_block_ends.nd rfl rfl (by decide) rfl rfl (pa_cons (pe_lst pa_nil) (pa_cons (pe_un un_neg pe_int) pa_nil)) (by rfl))
      (pss_cons (ps_for PassesOwn.never rfl (pi_enumT (by rfl) (T.f "enumerate") (pa_cons (pv 0) pa_nil)) (pg_tup rfl (pgs_cons (pg_name (i := 3) sc_block_ends.nd rfl (Or.inl rfl)) (pgs_cons (pg_name (i := 4) sc_block_ends.nd rfl (Or.inl rfl)) pgs_nil)))
      (pss_cons (ps_set (i := 2) sc_block_ends.nd rfl (Or.inl rfl) (pe_callB (call_max2 rfl) (by rfl) (T.f "max") (by decide +kernel) (pa_cons (pv 2) (pa_cons (pv 4) pa_nil))))
      (pss_one (ps_if (pt_cmpR op_eq (pv 2) (pv 3) (nomark _))
      (pss_one (ps_expr (pe_bm PySem.F.plainAttrs_list PySem.F.slot_list_append PySem.F.type_list_append mt_append (pv 1) (pa_cons (pe_op op_add (pv 3) pe_int) pa_nil))))
      pss_nil))))
      (pss_one (ps_ret (pv 1))))), ?_⟩
    have big := size_big
    have hl : (iV p).length = p.length := iV_len p
    refine ⟨Nat.zero_le _, fun D hD => ⟨1, rfl, _, _, rfl, .ref a, rfl, a, iV p, rfl, Same.seqT (same_upd hD) ea, for_it walk_T
      (fun i σ H3 => ∃ y3 y4, σ = [some (.ref a), some (.ref D), some (.int ((p.zipIdx.take i).foldl K49.beF ([], -1)).2), y3, y4] ∧ Same H H3 ∧ H3 D = some (.lst (iV ((p.zipIdx.take i).foldl K49.beF ([], -1)).1)) ∧ ((p.zipIdx.take i).foldl K49.beF ([], -1)).1.length ≤ i)
      ⟨none, none, rfl, same_upd hD, upd_same, Nat.zero_le _⟩ (fun i σ H3 _ ⟨_, _, _, sm, _⟩ => Same.seqT sm ea) (fun i v σ H3 H4 hi hp y => ?_) (fun σ H3 hp => ?_)⟩⟩
    · obtain ⟨y3, y4, rfl, sm, eD, hlen⟩ := hp
      obtain ⟨Tu, xs, rfl, nT, rfl, z, hz, rfl⟩ := y
      obtain ⟨x, hx, rfl⟩ := iV_at hz
      have ebe := K49.be_take hx
      generalize hst : (p.zipIdx.take i).foldl K49.beF ([], -1) = st at ebe eD hlen
      have eDT : (upd H3 Tu (.tup [.int (i : Nat), .int (x : Int)])) D = some (.lst (iV st.1)) := (same_upd nT) _ _ eD
      have smT : Same H (upd H3 Tu (.tup [.int (i : Nat), .int (x : Int)])) := sm.trans (same_upd nT)
      refine ⟨Tu, _, rfl, SqT.of upd_same, rfl, _, _, rfl, _, _, rfl, rfl, _, rfl, _, rfl, _, _, rfl, _, rfl, _, rfl, rfl, _, rfl, itE (fun e => ?_) (fun e => ?_)⟩
      · have em : (if (x : Int) > st.2 then (x : Int) else st.2) = (i : Int) := V.int.inj (of_decide_eq_true e)
        refine ⟨.ref D, rfl, .inl ⟨rfl, _, SqL.of eDT⟩, _, rfl, _, _, rfl, rfl, D, iV st.1, _, rfl, rfl, eDT, by rw [iV_len]; omega, ?_⟩
        have es : K49.beF st (x, i) = (st.1 ++ [i + 1], (i : Int)) := by
          unfold K49.beF
          simp only [em, if_true]
        rw [ebe, es]
        refine ⟨some (.int (i : Nat)), some (.int (x : Int)), by rw [em]; rfl, fun b o hb => ?_, ?_, by rw [List.length_append]; simp; omega⟩
        · rw [upd_ne (ne_of_none hb hD)]
          exact smT _ _ hb
        · rw [upd_same]
          simp [iV]
      · have em : ¬ (if (x : Int) > st.2 then (x : Int) else st.2) = (i : Int) := fun z => by
          rw [z] at e
          simp at e
        have es : K49.beF st (x, i) = (st.1, (if (x : Int) > st.2 then (x : Int) else st.2)) := by
          unfold K49.beF
          simp only [if_neg em]
        show ∃ y3 y4, _
        rw [ebe, es]
        exact ⟨some (.int (i : Nat)), some (.int (x : Int)), rfl, smT, eDT, by show st.1.length ≤ i + 1; omega⟩
    · obtain ⟨y3, y4, rfl, sm, eD, hlen⟩ := hp
      refine ⟨.ref D, rfl, q _ D _ sm eD ?_⟩
      rw [iV_len, hl, List.take_of_length_le (by rw [List.length_zipIdx]; exact Nat.le_refl _)]
      rfl
end
end R49
set_option Elab.async false
set_option linter.all false
set_option maxRecDepth 100000
set_option maxHeartbeats 4000000
namespace R49
open PySem PySem.Spec PyProof.Rows L2
theorem walk_zipT {K : PySem.W.Frag} {a b : Addr} {xs ys : List V} {n : Nat} (hn : n = min xs.length ys.length) : Walk (RZ.ItzT K a b) n (fun H => SqT K H a xs ∧ SqT K H b ys) (YPair (fun i => xs[i]?) (fun i => ys[i]?)) := by
  refine ⟨fun i H hi g => ?_, fun H g => ⟨xs, ys, g.1, g.2, ?_⟩, fun i H v H' _ g y => ?_⟩
  · exact ⟨xs, ys, xs[i]'(by omega), ys[i]'(by omega), g.1, g.2, List.getElem?_eq_getElem _, List.getElem?_eq_getElem _⟩
  · omega
  · obtain ⟨T, x, y, rfl, nT, rfl, f1, f2⟩ := y
    exact ⟨T, x, y, rfl, nT, rfl, f1 _ g.1, f2 _ g.2⟩
theorem dget_str {H : Hp} {d : Addr} {kvs : List (L2.Key × V)} {x : Str} {v : V} (e : H d = some (.dK kvs)) (h : valV kvs (Sum.inr x) = some v) : DGet H d (.str x) (some v) := by
  rw [← h]
  exact DGet.k (k := Sum.inr x) e
theorem cut1T (xs : List V) : cutV xs (some 1) none = xs.drop 1 := by
  unfold cutV
  rw [show HT.sIx xs.length 0 (some 1) = min 1 xs.length from HT.sIx_nat xs.length 0 1, HT.sIx_none]
  cases xs with
  | nil => rfl
  | cons x r =>
    rw [show min 1 (x :: r).length = 1 by rw [List.length_cons]; omega]
    show (List.take ((x :: r).length - 1) r) = r
    rw [List.length_cons, Nat.add_sub_cancel]
    exact List.take_length
section
variable {P : Program} {w : World} {K : PySem.W.Frag} {mg : Str → Option Value} {base : Heap}
/-! ### row_in -/
theorem sc_row_in : FnScope ["text", "row"] ["text"] (defScope dRowIn.st) := ⟨rfl, rfl, rfl, by decide +kernel, rfl, by decide +kernel, by decide +kernel⟩
def spRowIn : Sp := fun vs H Q _ => ∃ (t : Str) (u : List Str), vs = [.str t] ∧ Txt.split t " " = u ∧ t.length ≤ 100 ∧ okRow u ∧ ∀ H' a, Same H H' → H' a = some (.tup (sV u)) → Q (.ref a) H'
theorem ok_row_in (T : Txt K mg) : Cal P w K mg base 3 dRowIn ["text"] spRowIn := by
  have C_is_row := ok_is_row (P := P) (w := w) (base := base) T
  refine Cal.of T (List.mem_of_getElem? (i := 3) rfl) sc_row_in (fun _ _ _ _ _ _ us hl => match us, hl with | [_], _ => rfl) (fun vs H Q E h => ?_) (fun cdv A outer s H vs Q E hr h => ?_)
  · obtain ⟨a, u, rfl, _⟩ := h
    rfl
  · obtain ⟨t, u, rfl, es, hl, hu, q⟩ := h
    refine ⟨_, PSs.nox (pss_cons (ps_if (pt_not (pt_val (pe_callB call_isi (by rfl) (T.f "isinstance") (by decide +kernel) (pa_cons (pv 0) (pa_cons (pe_tyn (n := "str") (T.f "str")) pa_nil)))))
      (pss_one (ps_ret pe_non))
      pss_nil)
      (pss_cons (ps_set (i := 1) sc_row_in.nd rfl (Or.inl rfl) (pe_callTy call_tuple_of (by rfl) (T.f "tuple") (by decide +kernel) (pa_cons (pe_split (pv 0) pe_str) pa_nil)))
      (pss_one (ps_ret (pe_ifExp (pt_val (pe_cal C_is_row (hr.mono (by decide)) (T.g "is_row") (pa_cons (pv 1) pa_nil))) (pv 1) pe_non))))), ?_⟩
    have big := size_big
    refine ⟨.str t, rfl, .str t, .ty "str", .type "str", .type "str", true, rfl, .ty _, .base (.str _), kit_self rfl, true, rfl, itF rfl ?_⟩
    refine ⟨_, rfl, ⟨_, rfl⟩, t, " ", rfl, rfl, by decide, by omega, fun p np => ⟨p, _, rfl, .inl ⟨SqL.of upd_same, fun l nl => ?_⟩⟩⟩
    have s1 : Same H (upd H p (.lst ((Txt.split t " ").map V.str))) := same_upd np
    have s2 := s1.trans (same_upd (o := .tup ((Txt.split t " ").map V.str)) nl)
    rw [es] at s2 ⊢
    refine ⟨_, rfl, l, u, rfl, upd_same, hu, fun H' sm => ⟨true, rfl, .ref l, rfl, q H' l (s2.trans sm) (sm _ _ upd_same)⟩⟩
/-! ### needless_in -/
theorem sc_needless_in : FnScope ["upper", "places", "one", "other"] ["upper", "places"] (defScope dNeedless.st) := ⟨rfl, rfl, rfl, by decide +kernel, rfl, by decide +kernel, by decide +kernel⟩
def spNeedless : Sp := fun vs H Q _ => ∃ (a d : Addr) (u : List Str) (kvs : List (L2.Key × V)), vs = [.ref a, .ref d] ∧ H a = some (.tup (sV u)) ∧ 1 ≤ u.length ∧ u.length ≤ 10 ∧ H d = some (.dK kvs) ∧ (∀ x ∈ u, ∃ n : Int, valV kvs (.inr x) = some (.int n)) ∧ ∀ H' r, Same H H' → Q (.ref r) H'
theorem ok_needless_in (T : Txt K mg) : Cal P w K mg base 1 dNeedless ["upper", "places"] spNeedless := by
  refine Cal.of T (List.mem_of_getElem? (i := 4) rfl) sc_needless_in (fun _ _ _ _ _ _ us hl => match us, hl with | [_, _], _ => rfl) (fun vs H Q E h => ?_) (fun cdv A outer s H vs Q E hr h => ?_)
  · obtain ⟨a, d, u, kvs, rfl, _⟩ := h
    rfl
  · obtain ⟨a, d, u, kvs, rfl, ea, h1, h10, ed, hv, q⟩ := h
    refine ⟨_, PSs.nox (pss_one (ps_ret (pe_callTy call_tuple_of (by rfl) (T.f "tuple") (by decide +kernel) (pa_cons (pe_lc (own := [("one", 2), ("other", 3)]) (g := (gTup K 2 (gCons (gName 2) (gCons (gName 3) gNil)))) (tt := _) rfl sc_needless_in.nd (RZ.pi_zipA (by rfl) (T.f "zip") (pa_cons (pv 0) (pa_cons (pe_slice sl_tupA (pv 0) (po_some pe_int) po_none) pa_nil))) (blkOk_by (N := ["upper", "places", "one", "other"]) (sc := defScope dNeedless.st) (by decide +kernel)) (fun _ _ _ _ _ => (pg_tup rfl (pgs_cons (pg_name (i := 2) sc_needless_in.nd rfl (Or.inl rfl)) (pgs_cons (pg_name (i := 3) sc_needless_in.nd rfl (Or.inl rfl)) pgs_nil)))) (fun _ _ _ _ _ => (pts_one (pt_cmpR op_eq (pe_dget (hu_of hr) (pv 1) (pv 3) (fun _ _ => rfl)) (pe_op op_add (pe_dget (hu_of hr) (pv 1) (pv 2) (fun _ _ => rfl)) pe_int) (nomark _)))) (fun _ _ _ _ _ => (pe_tup (pa_cons (pv 2) (pa_cons (pv 3) pa_nil))))) pa_nil)))), ?_⟩
    have big := size_big
    have hl := sV_len u
    have hw : ¬ (HT.sIx (sV u).length 0 (some 1) = 0 ∧ HT.sIx (sV u).length (sV u).length none = (sV u).length) := by
      intro z
      rw [show HT.sIx (sV u).length 0 (some 1) = min 1 (sV u).length from HT.sIx_nat _ 0 1] at z
      omega
    refine ⟨.ref a, rfl, .ref a, rfl, 1, rfl, a, sV u, rfl, SqT.of ea, fun z => absurd z hw, fun _ c nc => ?_⟩
    have s1 : Same H (upd H c (.tup (cutV (sV u) (some 1) none))) := same_upd nc
    rw [cut1T] at s1 ⊢
    refine ⟨a, c, sV u, (sV u).drop 1, rfl, .inr ⟨SqT.of (s1 _ _ ea), SqT.of upd_same, ?_⟩⟩
    generalize hH1 : upd H c (.tup ((sV u).drop 1)) = H1 at s1
    have ec : H1 c = some (.tup ((sV u).drop 1)) := by rw [← hH1, upd_same]
    refine fun D hD => lc_it (walk_zipT rfl) (fun i H3 => Same H1 H3 ∧ ∃ acc, H3 D = some (.lst acc) ∧ acc.length ≤ i) ⟨same_upd hD, [], upd_same, Nat.zero_le _⟩ (fun _ _ _ p => ⟨SqT.of (p.1 _ _ (s1 _ _ ea)), SqT.of (p.1 _ _ ec)⟩) (fun i v H3 H4 hi p y => ?_) (fun H3 p => ?_)
    · obtain ⟨sm, acc, eD, hacc⟩ := p
      obtain ⟨Tu, x, y, rfl, nT, rfl, hx, hy⟩ := y
      obtain ⟨x0, hx0, rfl⟩ := sV_at hx
      have hy' : ((sV u).drop 1)[i]? = some y := hy
      rw [List.getElem?_drop] at hy'
      obtain ⟨y0, hy0, rfl⟩ := sV_at hy'
      obtain ⟨n1, hn1⟩ := hv x0 (List.mem_of_getElem? hx0)
      obtain ⟨n2, hn2⟩ := hv y0 (List.mem_of_getElem? hy0)
      have smT : Same H3 (upd H3 Tu (.tup [.str x0, .str y0])) := same_upd nT
      have edT := smT _ _ (sm _ _ (s1 _ _ ed))
      refine ⟨Tu, _, rfl, SqT.of upd_same, rfl, _, _, rfl, _, _, rfl, rfl, rfl, .ref d, rfl, _, rfl, d, _, rfl, dget_str edT hn2, .ref d, rfl, _, rfl, d, _, rfl, dget_str edT hn1, _, _, rfl, rfl, rfl, _, rfl, itE (fun e => ?_) (fun e => ?_)⟩
      · refine ⟨_, rfl, _, rfl, by show 2 ≤ _; omega, fun p np => ⟨acc, ?_, by omega, ?_, acc ++ [.ref p], upd_same, by rw [List.length_append]; simp; omega⟩⟩
        · exact (same_upd np) _ _ (smT _ _ eD)
        · intro b o hb
          rw [upd_ne (ne_of_none hb hD)]
          exact (same_upd np) _ _ (smT _ _ (sm _ _ hb))
      · exact ⟨sm.trans smT, acc, smT _ _ eD, by omega⟩
    · obtain ⟨sm, acc, eD, hacc⟩ := p
      exact ⟨D, acc, rfl, .inl ⟨SqL.of eD, fun l nl => q _ l ((s1.trans sm).trans (same_upd nl))⟩⟩
end
end R49
set_option Elab.async false
set_option linter.all false
set_option maxRecDepth 100000
set_option maxHeartbeats 4000000
namespace R49
open PySem PySem.Spec PyProof.Rows L2
/-! ### equality of data -/
def dI (p : List Nat) : List PyData := p.map fun (n : Nat) => PyData.int (n : Int)
def dS (u : List Str) : List PyData := u.map PyData.str
theorem dpI {K : PySem.W.Frag} {H : Hp} : ∀ p : List Nat, DpAll K H (iV p) (dI p)
  | [] => .nil
  | n :: p => .cons (.int _) (dpI p)
theorem dpS {K : PySem.W.Frag} {H : Hp} : ∀ u : List Str, DpAll K H (sV u) (dS u)
  | [] => .nil
  | n :: p => .cons (.str _) (dpS p)
theorem eqI : ∀ p q : List Nat, PyData.eqvAll (dI p) (dI q) = decide (p = q)
  | [], [] => rfl
  | [], _ :: _ => rfl
  | _ :: _, [] => rfl
  | n :: p, m :: q => by
    show (PyData.eqv (.int (n : Int)) (.int (m : Int)) && PyData.eqvAll (dI p) (dI q)) = _
    rw [eqI p q, Bool.eq_iff_iff]
    show (((n : Int) == (m : Int)) && _) = true ↔ _
    simp only [Bool.and_eq_true, beq_iff_eq, decide_eq_true_eq, List.cons.injEq]
    constructor
    · rintro ⟨a, b⟩; exact ⟨by omega, b⟩
    · rintro ⟨a, b⟩; exact ⟨by omega, b⟩
theorem eqS : ∀ p q : List Str, PyData.eqvAll (dS p) (dS q) = decide (p = q)
  | [], [] => rfl
  | [], _ :: _ => rfl
  | _ :: _, [] => rfl
  | n :: p, m :: q => by
    show (PyData.eqv (.str n) (.str m) && PyData.eqvAll (dS p) (dS q)) = _
    rw [eqS p q, Bool.eq_iff_iff]
    show ((n == m) && _) = true ↔ _
    simp only [Bool.and_eq_true, beq_iff_eq, decide_eq_true_eq, List.cons.injEq]
theorem layI : ∀ p : List Nat, PyData.canLayAll0 (dI p) = true ∧ PyData.depthAll (dI p) ≤ 2
  | [] => ⟨rfl, by simp [dI, PyData.depthAll]⟩
  | n :: p => by
    obtain ⟨a, b⟩ := layI p
    refine ⟨?_, ?_⟩
    · show PyData.canLayAll0 (PyData.int _ :: dI p) = true
      simp [PyData.canLay0, PyData.canLayAll0, a]
    · show PyData.depthAll (PyData.int _ :: dI p) ≤ 2
      simp [PyData.depth, PyData.depthAll]
      omega
theorem strOk_name {x : Str} (h : okName x) : PyData.strOk x = true := by
  unfold PyData.strOk
  rw [Array.all_eq_true']
  intro c hc
  have h1 : ∀ c ∈ letters.cps.toList, c < 0x110000 := by decide +kernel
  exact decide_eq_true (h1 c (h.2.2 c (by simpa using hc)))
theorem layS : ∀ p : List Str, (∀ x ∈ p, PyData.strOk x = true) → PyData.canLayAll0 (dS p) = true ∧ PyData.depthAll (dS p) ≤ 2
  | [], _ => ⟨rfl, by simp [dS, PyData.depthAll]⟩
  | n :: p, h => by
    obtain ⟨a, b⟩ := layS p fun x hx => h x (by simp [hx])
    have hn := h n (by simp)
    refine ⟨?_, ?_⟩
    · show PyData.canLayAll0 (PyData.str _ :: dS p) = true
      simp [PyData.canLay0, PyData.canLayAll0, a, hn]
    · show PyData.depthAll (PyData.str _ :: dS p) ≤ 2
      simp [PyData.depth, PyData.depthAll]
      omega
theorem shTI (p : List Nat) : SeqAt.shaped (.tuple (dI p)) = true := by
  obtain ⟨a, b⟩ := layI p
  simp [SeqAt.shaped, PyData.canLay0, PyData.depth, a]
  omega
theorem shTS (p : List Str) (h : ∀ x ∈ p, PyData.strOk x = true) : SeqAt.shaped (.tuple (dS p)) = true := by
  obtain ⟨a, b⟩ := layS p h
  simp [SeqAt.shaped, PyData.canLay0, PyData.depth, a]
  omega
theorem shLS (p : List Str) (h : ∀ x ∈ p, PyData.strOk x = true) : SeqAt.shaped (.list (dS p)) = true := by
  obtain ⟨a, b⟩ := layS p h
  simp [SeqAt.shaped, PyData.canLay0, PyData.depth, a]
  omega
/-! ### sorted -/
theorem rising_pw : ∀ (l : List Str) (p : Str), risingS p l = true → (p :: l).Pairwise fun a b => ¬ (b.cps.toList < a.cps.toList)
  | [], p, _ => by simp
  | x :: r, p, h => by
    simp only [risingS, Bool.and_eq_true, Bool.not_eq_true'] at h
    have ih := rising_pw r x h.2
    have hpx : ¬ (x.cps.toList < p.cps.toList) := by
      have := h.1
      rw [ltCps_eq] at this
      exact of_decide_eq_false this
    refine List.pairwise_cons.mpr ⟨fun y hy => ?_, ih⟩
    rcases List.mem_cons.mp hy with rfl | hm
    · exact hpx
    · have hxy := (List.pairwise_cons.mp ih).1 y hm
      exact List.not_lt.mpr (List.le_trans (List.not_lt.mp hpx) (List.not_lt.mp hxy))
theorem sorted_pw (l : List Str) (h : sortedS l = true) : l.Pairwise fun a b => ¬ (b.cps.toList < a.cps.toList) := by
  cases l with
  | nil => exact .nil
  | cons x r => exact rising_pw r x h
theorem str_ext {a b : Str} (h : a.cps.toList = b.cps.toList) : a = b := by
  obtain ⟨x⟩ := a
  obtain ⟨y⟩ := b
  congr 1
  exact Array.toList_inj.mp h
theorem sorted_uniq : ∀ {a b : List Str}, a.Perm b → sortedS a = true → sortedS b = true → a = b := by
  have key : ∀ (n : Nat) (a b : List Str), a.length = n → a.Perm b → (a.Pairwise fun a b => ¬ (b.cps.toList < a.cps.toList)) → (b.Pairwise fun a b => ¬ (b.cps.toList < a.cps.toList)) → a = b := by
    intro n
    induction n with
    | zero =>
      intro a b hn hp _ _
      have : a = [] := List.length_eq_zero_iff.mp hn
      subst this
      exact (List.Perm.nil_eq hp)
    | succ n ih =>
      intro a b hn hp pa pb
      cases a with
      | nil => simp at hn
      | cons x r =>
        cases b with
        | nil => exact absurd hp.length_eq (by simp)
        | cons y t =>
          have exy : x = y := by
            by_cases e : x = y
            · exact e
            · have hx : x ∈ t := by
                have : x ∈ y :: t := hp.mem_iff.mp (by simp)
                rcases List.mem_cons.mp this with z | z
                · exact absurd z e
                · exact z
              have hy : y ∈ r := by
                have : y ∈ x :: r := hp.mem_iff.mpr (by simp)
                rcases List.mem_cons.mp this with z | z
                · exact absurd z.symm e
                · exact z
              have h1 := (List.pairwise_cons.mp pa).1 y hy
              have h2 := (List.pairwise_cons.mp pb).1 x hx
              exact str_ext (List.le_antisymm (List.not_lt.mp h1) (List.not_lt.mp h2))
          subst exy
          rw [ih r t (by simpa using hn) (List.perm_cons x |>.mp hp) (List.pairwise_cons.mp pa).2 (List.pairwise_cons.mp pb).2]
  intro a b hp ha hb
  exact key a.length a b rfl hp (sorted_pw a ha) (sorted_pw b hb)
end R49
set_option Elab.async false
set_option linter.all false
set_option maxRecDepth 100000
set_option maxHeartbeats 4000000
namespace R49
open PySem PySem.Spec PyProof.Rows L2
/-
0=self 1=upper 2=lower 3=index 4=name
-/
/-! ### orders -/
structure Rows (u l : List Str) : Prop where
  ok : K49.RowsOk u l
  row : okRow u
  good : K49.Good u.length (K49.placesOf u l)
theorem Rows.rowL {u l : List Str} (h : Rows u l) : okRow l := by
  obtain ⟨h1, h2, h3, h4⟩ := h.row
  refine ⟨by rw [h.ok.len]; exact h1, by rw [h.ok.len]; exact h2, h.ok.ndl, fun x hx => h4 x (h.ok.mem.mp hx)⟩
def OrdAt (K : PySem.W.Frag) (H : Hp) (a : Addr) (u l : List Str) : Prop := Rows u l ∧ ∃ dx vs up lo pl ua, SlX.Slt H a (gA "Order" K) dx vs ∧ vs[7]? = some (some (.ref up)) ∧ vs[1]? = some (some (.ref lo)) ∧ vs[5]? = some (some (.ref pl)) ∧
  vs[0]? = some (some (.bl true)) ∧ vs[8]? = some (some (.ref ua)) ∧ H up = some (.tup (sV u)) ∧ H lo = some (.tup (sV l)) ∧ PT H pl (K49.placesOf u l) ∧ H ua = some (.dK (kvO (fun i => .int (i : Nat)) u))
def Kp (x dx : Addr) (H H' : Hp) : Prop := ∀ b o, b ≠ x → b ≠ dx → H b = some o → H' b = some o
theorem same_slt {H H' : Hp} {a C dx : Addr} {vs : List (Option V)} (s : Same H H') (h : SlX.Slt H a C dx vs) : SlX.Slt H' a C dx vs := by
  rcases h with ⟨h1, h2⟩ | ⟨h1, h2⟩
  · exact .inl ⟨s _ _ h1, h2⟩
  · exact .inr ⟨s _ _ h1, s _ _ h2⟩
theorem same_ord {K : PySem.W.Frag} {H H' : Hp} {a : Addr} {u l : List Str} (s : Same H H') (h : OrdAt K H a u l) : OrdAt K H' a u l := by
  obtain ⟨r, dx, vs, up, lo, pl, ua, h0, h1, h2, h3, h4, h5, h6, h7, h8, h9⟩ := h
  exact ⟨r, dx, vs, up, lo, pl, ua, same_slt s h0, h1, h2, h3, h4, h5, s _ _ h6, s _ _ h7, h8.same s, s _ _ h9⟩
structure Sx (H0 H : Hp) (x C dx : Addr) (vs : List (Option V)) : Prop where
  sl : SlX.Slt H x C dx vs
  xs : ∃ o, H x = some o
  dxs : ∃ o, H dx = some o
  kp : Kp x dx H0 H
theorem Sx.same {H0 H H' : Hp} {x C dx : Addr} {vs : List (Option V)} (S : Sx H0 H x C dx vs) (s : Same H H') : Sx H0 H' x C dx vs :=
  ⟨same_slt s S.sl, let ⟨o, h⟩ := S.xs; ⟨o, s _ _ h⟩, let ⟨o, h⟩ := S.dxs; ⟨o, s _ _ h⟩, fun b o h1 h2 h3 => s _ _ (S.kp b o h1 h2 h3)⟩
theorem Sx.put {H0 H : Hp} {x C dx : Addr} {vs : List (Option V)} (S : Sx H0 H x C dx vs) (ne : dx ≠ x) (vs' : List (Option V)) : Sx H0 (SlX.slH H x C dx vs') x C dx vs' := by
  refine ⟨SlX.slH_slt ne, ⟨_, by unfold SlX.slH; exact upd_same⟩, ⟨_, by unfold SlX.slH; rw [upd_ne ne]; exact upd_same⟩, fun b o h1 h2 h3 => ?_⟩
  rw [SlX.slH_ne h1 h2]
  exact S.kp b o h1 h2 h3
theorem Sx.new {H0 H : Hp} {x C dx : Addr} {vs : List (Option V)} (S : Sx H0 H x C dx vs) {D : Addr} (h : H D = none) : D ≠ x ∧ D ≠ dx := by
  obtain ⟨o, h1⟩ := S.xs
  obtain ⟨o2, h2⟩ := S.dxs
  exact ⟨(ne_of_none h1 h).symm, (ne_of_none h2 h).symm⟩
theorem sum_small {u : List Str} (h : ∀ x ∈ u, okName x) : (u.map (·.length)).sum ≤ 8 * u.length := by
  induction u with
  | nil => exact Nat.le_refl _
  | cons x r ih =>
    have h1 := (h x (by simp)).2.1
    have h2 := ih fun y hy => h y (by simp [hy])
    rw [List.map_cons, List.sum_cons, List.length_cons]
    omega
theorem join_small {u : List Str} (h : ∀ x ∈ u, okName x) (h10 : u.length ≤ 10) : (u.map (·.length)).sum + u.length * (" " : Str).length ≤ 16777216 ∧ (Txt.join " " u).length ≤ 100 := by
  have h1 := sum_small h
  have e1 : (" " : Str).length = 1 := rfl
  have h2 := StrLaws.join_length_le " " u
  have e2 : Txt.join " " u = Str.join " " u := StrLaws.glued_eq_join _ _
  rw [e2]
  rw [e1] at h2 ⊢
  omega
section
variable {P : Program} {w : World} {K : PySem.W.Frag} {mg : Str → Option Value} {base : Heap}
theorem sc_Order_init : FnScope ["self", "upper", "lower", "index", "name"] ["self", "upper", "lower"] (defScope dInit.st) := ⟨rfl, rfl, rfl, by decide +kernel, rfl, by decide +kernel, by decide +kernel⟩
def spInit (K : PySem.W.Frag) : Sp := fun vs H Q _ => ∃ x dx a b u l, vs = [.ref x, .ref a, .ref b] ∧ H x = some (.ins (gA "Order" K) dx []) ∧ H dx = some (.own x) ∧ dx ≠ x ∧ H a = some (.tup (sV u)) ∧ H b = some (.tup (sV l)) ∧ Rows u l ∧
  ∀ H', Kp x dx H H' → OrdAt K H' x u l → Q .non H'
theorem ok_init (T : Txt K mg) : Cal P w K mg base 3 dInit ["self", "upper", "lower"] (spInit K) := by
  have C_is_row := ok_is_row (P := P) (w := w) (base := base) T
  have C_block_ends := ok_block_ends (P := P) (w := w) (base := base) T
  have C_needless_in := ok_needless_in (P := P) (w := w) (base := base) T
  refine Cal.of T (List.mem_of_getElem? (i := 5) rfl) sc_Order_init (fun _ _ _ _ _ _ us hl => match us, hl with | [_, _, _], _ => rfl) (fun vs H Q E h => ?_) (fun cdv A outer s H vs Q E hr h => ?_)
  · obtain ⟨x, dx, a, b, u, l, rfl, _⟩ := h
    rfl
  · obtain ⟨x, dx, a, b, u, l, rfl, ex, edx, ne, ea, eb, R, q⟩ := h
    refine ⟨_, PSs.nox (pss_cons (ps_if (PW.pt (pw_or (pt_not (pt_val (pe_cal C_is_row (hr.mono (by decide)) (T.g "is_row") (pa_cons (pv 1) pa_nil)))) (pw_or (pt_not (pt_val (pe_cal C_is_row (hr.mono (by decide)) (T.g "is_row") (pa_cons (pv 2) pa_nil)))) (pw_or1 (pt_cmpR (op_neD hr.units) (pe_callB cr_sortedTx (by rfl) (T.f "sorted") (by decide +kernel) (pa_cons (pv 1) pa_nil)) (pe_callB cr_sortedTx (by rfl) (T.f "sorted") (by decide +kernel) (pa_cons (pv 2) pa_nil)) (nomark _))))))
      pss_never
      pss_nil)
      (pss_cons (SlX.ps_sl (pv 0) (pv 1))
      (pss_cons (SlX.ps_sl (pv 0) (pv 2))
      (pss_cons (SlX.ps_sl (pv 0) (pe_callTy call_tuple_of (by rfl) (T.f "tuple") (by decide +kernel) (pa_cons (pe_callB cr_sortedTx (by rfl) (T.f "sorted") (by decide +kernel) (pa_cons (pv 1) pa_nil)) pa_nil)))
      (pss_cons (SlX.ps_sl (pv 0) (pe_dc (own := [("index", 3), ("name", 4)]) (g := (gTup K 2 (gCons (gName 3) (gCons (gName 4) gNil)))) (tt := tYes) rfl sc_Order_init.nd (pi_enumT (by rfl) (T.f "enumerate") (pa_cons (pv 1) pa_nil)) (blkOk_by (N := ["self", "upper", "lower", "index", "name"]) (sc := defScope dInit.st) (by decide +kernel)) (fun _ _ _ _ _ => (pg_tup rfl (pgs_cons (pg_name (i := 3) sc_Order_init.nd rfl (Or.inl rfl)) (pgs_cons (pg_name (i := 4) sc_Order_init.nd rfl (Or.inl rfl)) pgs_nil)))) (fun _ _ _ _ _ => pts_nil) (fun _ _ _ _ _ => (pv 4)) (fun _ _ _ _ _ => (pv 3))))
      (pss_cons (SlX.ps_sl (pv 0) (pe_dc (own := [("index", 3), ("name", 4)]) (g := (gTup K 2 (gCons (gName 3) (gCons (gName 4) gNil)))) (tt := tYes) rfl sc_Order_init.nd (pi_enumT (by rfl) (T.f "enumerate") (pa_cons (pv 2) pa_nil)) (blkOk_by (N := ["self", "upper", "lower", "index", "name"]) (sc := defScope dInit.st) (by decide +kernel)) (fun _ _ _ _ _ => (pg_tup rfl (pgs_cons (pg_name (i := 3) sc_Order_init.nd rfl (Or.inl rfl)) (pgs_cons (pg_name (i := 4) sc_Order_init.nd rfl (Or.inl rfl)) pgs_nil)))) (fun _ _ _ _ _ => pts_nil) (fun _ _ _ _ _ => (pv 4)) (fun _ _ _ _ _ => (pv 3))))
      (pss_cons (SlX.ps_sl (pv 0) (pe_callTy cr_tupP (by rfl) (T.f "tuple") (by decide +kernel) (pa_cons (pe_lc (own := [("name", 4)]) (g := (gName 4)) (tt := tYes) (te := tDGet (SlX.tSl K (tVar 0) "own_lower_at") (tVar 4)) rfl sc_Order_init.nd (pi_tup (pv 1)) (blkOk_by (N := ["self", "upper", "lower", "index", "name"]) (sc := defScope dInit.st) (by decide +kernel)) (fun _ _ _ _ _ => (pg_name (i := 4) sc_Order_init.nd rfl (Or.inl rfl))) (fun _ _ _ _ _ => pts_nil) (fun _ _ _ _ _ => (pe_dget (hu_of hr) (SlX.pe_sl (pv 0)) (pv 4) (fun _ _ => rfl)))) pa_nil)))
      (pss_cons (SlX.ps_sl (pv 0) (pe_and (pe_cmpR op_gt (pe_callB call_len_seq (by rfl) (T.f "len") PySem.boot_len (pa_cons (pv 1) pa_nil)) pe_int (nomark _)) (pe_one (pe_cmpR op_eq (pe_callB call_len_seq (by rfl) (T.f "len") PySem.boot_len (pa_cons (pe_cal C_block_ends (hr.mono (by decide)) (T.g "block_ends") (pa_cons (SlX.pe_sl (pv 0)) pa_nil)) pa_nil)) pe_int (nomark _)))))
      (pss_cons (SlX.ps_sl (pv 0) (pe_cal C_needless_in (hr.mono (by decide)) (T.g "needless_in") (pa_cons (pv 1) (pa_cons (SlX.pe_sl (pv 0)) pa_nil))))
      (pss_one (SlX.ps_sl (pv 0) (pe_op op_add_str (pe_op op_add_str (pe_join pe_str (pv 1)) pe_str) (pe_join pe_str (pv 2)))))))))))))), ?_⟩
    have big := size_big
    obtain ⟨h1, h10, nd, hn⟩ := R.row
    obtain ⟨g1, g10, ndl, hnl⟩ := R.rowL
    have ax : a ≠ x := fun e => by rw [e, ex] at ea; cases ea
    have adx : a ≠ dx := fun e => by rw [e, edx] at ea; cases ea
    have bx : b ≠ x := fun e => by rw [e, ex] at eb; cases eb
    have bdx : b ≠ dx := fun e => by rw [e, edx] at eb; cases eb
    have S0 : Sx H H x (gA "Order" K) dx [] := ⟨.inl ⟨ex, rfl⟩, ⟨_, ex⟩, ⟨_, edx⟩, fun _ _ _ _ z => z⟩
    have fA : ∀ {H' vs}, Sx H H' x (gA "Order" K) dx vs → H' a = some (.tup (sV u)) := fun S => S.kp _ _ ax adx ea
    have fB : ∀ {H' vs}, Sx H H' x (gA "Order" K) dx vs → H' b = some (.tup (sV l)) := fun S => S.kp _ _ bx bdx eb
    refine ⟨.ref a, rfl, a, u, rfl, ea, R.row, fun H1 s1 => ⟨true, rfl, itF rfl ⟨.ref b, rfl, b, l, rfl, s1 _ _ eb, R.rowL, fun H2 s2 => ⟨true, rfl, itF rfl ?_⟩⟩⟩⟩
    have S2 := S0.same (s1.trans s2)
    refine ⟨.ref a, rfl, a, u, rfl, SqT.of (fA S2), by omega, fun ys p hp hs np => ⟨.ref b, rfl, b, l, rfl, SqT.of (fB (S2.same (same_upd np))), by omega, fun zs p2 hp2 hs2 np2 => ?_⟩⟩
    have S4 := (S2.same (same_upd (o := .lst (ys.map V.str)) np)).same (same_upd (o := .lst (zs.map V.str)) np2)
    have eyz : ys = zs := sorted_uniq (hp.trans (R.ok.pm.symm.trans hp2.symm)) hs hs2
    have oky : ∀ x ∈ ys, PyData.strOk x = true := fun x hx => strOk_name (hn x (hp.mem_iff.mp hx))
    refine ⟨.list (dS ys), .list (dS zs), .lst (SqL.of ((same_upd np2) _ _ upd_same)) (dpS ys), .lst (SqL.of upd_same) (dpS zs), shLS ys oky, shLS zs (eyz ▸ oky), _, rfl, itF ?_ ?_⟩
    · show (!PyData.eqvAll (dS ys) (dS zs)) = false
      rw [eqS, eyz, decide_eq_true rfl]
      rfl
    generalize upd (upd H2 p (.lst (ys.map V.str))) p2 (.lst (zs.map V.str)) = H4 at S4
    -- own_upper
    refine ⟨.ref a, rfl, .ref x, rfl, x, _, dx, _, _, 7, rfl, S4.sl, T.cls, T.sl "own_upper" 7, ?_⟩
    have S5 := S4.put ne (SlX.putS 7 (.ref a) [])
    generalize SlX.slH H4 x (gA "Order" K) dx (SlX.putS 7 (.ref a) []) = H5 at S5
    -- own_lower
    refine ⟨.ref b, rfl, .ref x, rfl, x, _, dx, _, _, 1, rfl, S5.sl, T.cls, T.sl "own_lower" 1, ?_⟩
    have S6 := S5.put ne (SlX.putS 1 (.ref b) (SlX.putS 7 (.ref a) []))
    generalize SlX.slH H5 x (gA "Order" K) dx (SlX.putS 1 (.ref b) (SlX.putS 7 (.ref a) [])) = H6 at S6
    -- own_names
    refine ⟨.ref a, rfl, a, u, rfl, SqT.of (fA S6), by omega, fun ys2 p3 _ _ np3 => ⟨p3, _, rfl, .inl ⟨SqL.of upd_same, fun p4 np4 => ?_⟩⟩⟩
    have S7 := (S6.same (same_upd (o := .lst (ys2.map V.str)) np3)).same (same_upd (o := .tup (ys2.map V.str)) np4)
    refine ⟨.ref x, rfl, x, _, dx, _, _, 3, rfl, S7.sl, T.cls, T.sl "own_names" 3, ?_⟩
    have S8 := S7.put ne (SlX.putS 3 (.ref p4) (SlX.putS 1 (.ref b) (SlX.putS 7 (.ref a) [])))
    generalize hv8 : SlX.putS 3 (.ref p4) (SlX.putS 1 (.ref b) (SlX.putS 7 (.ref a) [])) = v8 at S8
    generalize SlX.slH (upd (upd H6 p3 (.lst (ys2.map V.str))) p4 (.tup (ys2.map V.str))) x (gA "Order" K) dx v8 = H8 at S8
    have l87 : v8[7]? = some (some (.ref a)) := by
      rw [← hv8]; exact (SlX.putS_ne (by decide)).mpr ((SlX.putS_ne (by decide)).mpr (SlX.putS_get _ _ _))
    have l81 : v8[1]? = some (some (.ref b)) := by
      rw [← hv8]; exact (SlX.putS_ne (by decide)).mpr (SlX.putS_get _ _ _)
    -- own_upper_at
    refine ⟨.ref a, rfl, a, sV u, rfl, SqT.of (fA S8), fun D1 nD1 => dc_it walk_T (DcP H8 D1 fun i => kvO (fun i => .int (i : Nat)) (u.take i)) (DcP.start nD1 rfl) (fun _ _ _ p => SqT.of (p.1 _ _ (fA S8))) (fun i v H3 H4 hi p y => ?_) (fun H9 p9 => ?_)⟩
    · obtain ⟨Tu, xs, rfl, nT, rfl, z, hz, rfl⟩ := y
      obtain ⟨y, hy, rfl⟩ := sV_at hz
      exact ⟨Tu, _, rfl, SqT.of upd_same, rfl, _, _, rfl, _, _, rfl, rfl, rfl, _, rfl, _, rfl, p.step nD1 (same_upd nT) rfl (kvO_succ _ nd hy) (by rw [kvO_len, List.length_take]; omega)⟩
    have e9 : H9 D1 = some (.dK (kvO (fun i => .int (i : Nat)) (u.take (sV u).length))) := p9.2
    rw [List.take_of_length_le (by rw [sV_len]; exact Nat.le_refl _)] at e9
    have S9 := S8.same p9.1
    obtain ⟨D1x, D1dx⟩ := S8.new nD1
    refine ⟨.ref x, rfl, x, _, dx, _, _, 8, rfl, S9.sl, T.cls, T.sl "own_upper_at" 8, ?_⟩
    have S10 := S9.put ne (SlX.putS 8 (.ref D1) v8)
    have e10 : SlX.slH H9 x (gA "Order" K) dx (SlX.putS 8 (.ref D1) v8) D1 = some (.dK (kvO (fun i => .int (i : Nat)) u)) := by rw [SlX.slH_ne D1x D1dx]; exact e9
    have l107 := (SlX.putS_ne (i := 8) (v := .ref D1) (by decide)).mpr l87
    have l101 := (SlX.putS_ne (i := 8) (v := .ref D1) (by decide)).mpr l81
    have l108 := SlX.putS_get 8 (.ref D1) v8
    generalize SlX.putS 8 (.ref D1) v8 = v10 at S10 e10 l107 l101 l108
    generalize SlX.slH H9 x (gA "Order" K) dx v10 = H10 at S10 e10
    -- own_lower_at
    refine ⟨.ref b, rfl, b, sV l, rfl, SqT.of (fB S10), fun D2 nD2 => dc_it walk_T (DcP H10 D2 fun i => kvO (fun i => .int (i : Nat)) (l.take i)) (DcP.start nD2 rfl) (fun _ _ _ p => SqT.of (p.1 _ _ (fB S10))) (fun i v H3 H4 hi p y => ?_) (fun H11 p11 => ?_)⟩
    · obtain ⟨Tu, xs, rfl, nT, rfl, z, hz, rfl⟩ := y
      obtain ⟨y, hy, rfl⟩ := sV_at hz
      exact ⟨Tu, _, rfl, SqT.of upd_same, rfl, _, _, rfl, _, _, rfl, rfl, rfl, _, rfl, _, rfl, p.step nD2 (same_upd nT) rfl (kvO_succ _ ndl hy) (by rw [kvO_len, List.length_take]; omega)⟩
    have e11 : H11 D2 = some (.dK (kvO (fun i => .int (i : Nat)) (l.take (sV l).length))) := p11.2
    rw [List.take_of_length_le (by rw [sV_len]; exact Nat.le_refl _)] at e11
    have S11 := S10.same p11.1
    obtain ⟨D2x, D2dx⟩ := S10.new nD2
    refine ⟨.ref x, rfl, x, _, dx, _, _, 2, rfl, S11.sl, T.cls, T.sl "own_lower_at" 2, ?_⟩
    have S12 := S11.put ne (SlX.putS 2 (.ref D2) v10)
    have d12 : SlX.slH H11 x (gA "Order" K) dx (SlX.putS 2 (.ref D2) v10) D1 = some (.dK (kvO (fun i => .int (i : Nat)) u)) := by rw [SlX.slH_ne D1x D1dx]; exact p11.1 _ _ e10
    have e12 : SlX.slH H11 x (gA "Order" K) dx (SlX.putS 2 (.ref D2) v10) D2 = some (.dK (kvO (fun i => .int (i : Nat)) l)) := by rw [SlX.slH_ne D2x D2dx]; exact e11
    have l127 := (SlX.putS_ne (i := 2) (v := .ref D2) (by decide)).mpr l107
    have l121 := (SlX.putS_ne (i := 2) (v := .ref D2) (by decide)).mpr l101
    have l128 := (SlX.putS_ne (i := 2) (v := .ref D2) (by decide)).mpr l108
    have l122 := SlX.putS_get 2 (.ref D2) v10
    generalize SlX.putS 2 (.ref D2) v10 = v12 at S12 d12 e12 l127 l121 l128 l122
    generalize SlX.slH H11 x (gA "Order" K) dx v12 = H12 at S12 d12 e12
    -- own_places
    refine ⟨.ref a, rfl, a, rfl, ⟨_, SqT.of (fA S12)⟩, fun D nD => lc_it walk_tup (LcP H12 D fun i => iV ((u.take i).map fun y => l.idxOf y)) (LcP.start nD rfl) (fun _ _ _ p => SqT.of (p.1 _ _ (fA S12))) (fun i v H3 H4 hi p y => ?_) (fun H13 p13 => ?_)⟩
    · obtain ⟨rfl, hv⟩ := y
      obtain ⟨y, hy, rfl⟩ := sV_at hv
      have hyl : y ∈ l := R.ok.mem.mpr (List.mem_of_getElem? hy)
      refine ⟨rfl, .ref x, rfl, x, _, dx, _, _, 2, _, rfl, same_slt p.1 S12.sl, T.cls, T.sl "own_lower_at" 2, l122, _, rfl, D2, _, rfl, dget_str (p.1 _ _ e12) (kvO_at _ ndl hyl), p.step nD (Same.refl _) ?_ ?_⟩
      · show iV ((u.take (i + 1)).map fun y => l.idxOf y) = _
        rw [List.take_add_one, hy, Option.toList_some, List.map_append]
        simp [iV]
      · rw [iV_len, List.length_map, List.length_take]; omega
    have e13 : H13 D = some (.lst (iV ((u.take (sV u).length).map fun y => l.idxOf y))) := p13.2
    rw [List.take_of_length_le (by rw [sV_len]; exact Nat.le_refl _)] at e13
    refine ⟨D, _, rfl, SqL.of e13, fun po pl hpo npl => ?_⟩
    have s13 : Same H12 (upd H13 pl (.frz po (.tup (iV (u.map fun y => l.idxOf y))))) := Same.trans p13.1 (same_upd npl)
    have S13 := S12.same s13
    have n13 := (S12.same p13.1).new npl
    obtain ⟨plx, pldx⟩ := n13
    refine ⟨.ref x, rfl, x, _, dx, _, _, 5, rfl, S13.sl, T.cls, T.sl "own_places" 5, ?_⟩
    have S14 := S13.put ne (SlX.putS 5 (.ref pl) v12)
    have d14 := SlX.slH_ne (C := gA "Order" K) (vs := SlX.putS 5 (.ref pl) v12) D1x D1dx |>.trans (s13 _ _ d12)
    have e14 := SlX.slH_ne (C := gA "Order" K) (vs := SlX.putS 5 (.ref pl) v12) D2x D2dx |>.trans (s13 _ _ e12)
    have p14 := SlX.slH_ne (H := upd H13 pl (.frz po (.tup (iV (u.map fun y => l.idxOf y))))) (C := gA "Order" K) (vs := SlX.putS 5 (.ref pl) v12) plx pldx |>.trans upd_same
    have l147 := (SlX.putS_ne (i := 5) (v := .ref pl) (by decide)).mpr l127
    have l141 := (SlX.putS_ne (i := 5) (v := .ref pl) (by decide)).mpr l121
    have l148 := (SlX.putS_ne (i := 5) (v := .ref pl) (by decide)).mpr l128
    have l142 := (SlX.putS_ne (i := 5) (v := .ref pl) (by decide)).mpr l122
    have l145 := SlX.putS_get 5 (.ref pl) v12
    generalize SlX.putS 5 (.ref pl) v12 = v14 at S14 d14 e14 p14 l147 l141 l148 l142 l145
    generalize SlX.slH (upd H13 pl (.frz po (.tup (iV (u.map fun y => l.idxOf y))))) x (gA "Order" K) dx v14 = H14 at S14 d14 e14 p14
    -- own_is_whole
    have two := R.good.two
    refine ⟨.ref a, rfl, a, sV u, rfl, .inr (SqT.of (fA S14)), _, _, rfl, rfl, _, rfl, itT (decide_eq_true (by rw [sV_len]; omega)) ?_⟩
    refine ⟨.ref x, rfl, x, _, dx, _, _, 5, _, rfl, S14.sl, T.cls, T.sl "own_places" 5, l145, pl, _, rfl, (PT.mk p14 hpo).sq, by rw [List.length_map]; omega, fun H15 DD ll s15 eDD hll => ⟨DD, ll, rfl, .inl (SqL.of eDD), rfl, ?_⟩⟩
    have ell : decide (V.int (ll.length : Nat) = V.int 1) = true := by
      have be1 : (K49.be (u.map fun y => l.idxOf y)).length = 1 := (K49.Good.loop R.good).be1
      rw [hll, be1]; rfl
    have S15 := S14.same s15
    rw [ell]
    refine ⟨.ref x, rfl, x, _, dx, _, _, 0, rfl, S15.sl, T.cls, T.sl "own_is_whole" 0, ?_⟩
    have S16 := S15.put ne (SlX.putS 0 (.bl true) v14)
    have d16 := SlX.slH_ne (C := gA "Order" K) (vs := SlX.putS 0 (.bl true) v14) D1x D1dx |>.trans (s15 _ _ d14)
    have e16 := SlX.slH_ne (C := gA "Order" K) (vs := SlX.putS 0 (.bl true) v14) D2x D2dx |>.trans (s15 _ _ e14)
    have p16 := SlX.slH_ne (C := gA "Order" K) (vs := SlX.putS 0 (.bl true) v14) plx pldx |>.trans (s15 _ _ p14)
    have l167 := (SlX.putS_ne (i := 0) (v := .bl true) (by decide)).mpr l147
    have l161 := (SlX.putS_ne (i := 0) (v := .bl true) (by decide)).mpr l141
    have l168 := (SlX.putS_ne (i := 0) (v := .bl true) (by decide)).mpr l148
    have l162 := (SlX.putS_ne (i := 0) (v := .bl true) (by decide)).mpr l142
    have l165 := (SlX.putS_ne (i := 0) (v := .bl true) (by decide)).mpr l145
    have l160 := SlX.putS_get 0 (.bl true) v14
    generalize SlX.putS 0 (.bl true) v14 = v16 at S16 d16 e16 p16 l167 l161 l168 l162 l165 l160
    generalize SlX.slH H15 x (gA "Order" K) dx v16 = H16 at S16 d16 e16 p16
    -- own_needless
    refine ⟨.ref a, rfl, .ref x, rfl, x, _, dx, _, _, 2, _, rfl, S16.sl, T.cls, T.sl "own_lower_at" 2, l162, a, D2, u, _, rfl, fA S16, h1, h10, e16, fun y hy => ⟨_, kvO_at _ ndl (R.ok.mem.mpr hy)⟩, fun H17 r s17 => ⟨.ref x, rfl, x, _, dx, _, _, 4, rfl, (S16.same s17).sl, T.cls, T.sl "own_needless" 4, ?_⟩⟩
    have S18 := (S16.same s17).put ne (SlX.putS 4 (.ref r) v16)
    have d18 := SlX.slH_ne (C := gA "Order" K) (vs := SlX.putS 4 (.ref r) v16) D1x D1dx |>.trans (s17 _ _ d16)
    have p18 := SlX.slH_ne (C := gA "Order" K) (vs := SlX.putS 4 (.ref r) v16) plx pldx |>.trans (s17 _ _ p16)
    have l187 := (SlX.putS_ne (i := 4) (v := .ref r) (by decide)).mpr l167
    have l181 := (SlX.putS_ne (i := 4) (v := .ref r) (by decide)).mpr l161
    have l188 := (SlX.putS_ne (i := 4) (v := .ref r) (by decide)).mpr l168
    have l185 := (SlX.putS_ne (i := 4) (v := .ref r) (by decide)).mpr l165
    have l180 := (SlX.putS_ne (i := 4) (v := .ref r) (by decide)).mpr l160
    generalize SlX.putS 4 (.ref r) v16 = v18 at S18 d18 p18 l187 l181 l188 l185 l180
    generalize SlX.slH H17 x (gA "Order" K) dx v18 = H18 at S18 d18 p18
    -- own_text
    have ju := join_small hn h10
    have jl := join_small hnl g10
    have sp1 : (" " : Str).length = 1 := rfl
    have sp3 : (" / " : Str).length = 3 := rfl
    refine ⟨⟨_, rfl⟩, .ref a, rfl, _, a, u, rfl, rfl, .inr (SqT.of (fA S18)), ju.1, _, _, rfl, rfl, by rw [sp3]; omega, ⟨_, rfl⟩, .ref b, rfl, _, b, l, rfl, rfl, .inr (SqT.of (fB S18)), jl.1, _, _, rfl, rfl, ?_, .ref x, rfl, x, _, dx, _, _, 6, rfl, S18.sl, T.cls, T.sl "own_text" 6, ?_⟩
    · rw [Str.length_append, sp3]; omega
    · generalize Txt.join " " u ++ " / " ++ Txt.join " " l = tx
      have S20 := S18.put ne (SlX.putS 6 (.str tx) v18)
      have d20 := SlX.slH_ne (C := gA "Order" K) (vs := SlX.putS 6 (.str tx) v18) D1x D1dx |>.trans d18
      have p20 := SlX.slH_ne (C := gA "Order" K) (vs := SlX.putS 6 (.str tx) v18) plx pldx |>.trans p18
      have k := fun (j : Nat) (h : j ≠ 6) (y : V) (e : v18[j]? = some (some y)) => (SlX.putS_ne (i := 6) (v := .str tx) h).mpr e
      exact q _ S20.kp ⟨R, dx, _, a, b, pl, D1, S20.sl, k _ (by decide) _ l187, k _ (by decide) _ l181, k _ (by decide) _ l185, k _ (by decide) _ l180, k _ (by decide) _ l188, fA S20, fB S20, PT.mk p20 hpo, d20⟩
end
end R49
set_option Elab.async false
set_option linter.all false
set_option maxRecDepth 100000
set_option maxHeartbeats 4000000
namespace R49
open PySem PySem.Spec PyProof.Rows L2
section
variable {X : Cx} {k : Nat} {ps : List Str} {sp : Sp} {p pos : Pos} {e : Expr} {es : List Expr} {t : TA} {x : Str}
theorem pe_makeO (T : Txt X.K X.mg) (c : Cal X.prog X.w X.K X.mg X.base k dInit ps sp) (hr : Room (k + 1) X.A) (i : Nat) (ha : PA X (e :: es) t) (hN : X.N[i]? = some x := by rfl) (hv : Vis X.env.scope x := by first | exact Or.inl rfl | exact Or.inr (Or.inl rfl) | exact Or.inr (Or.inr rfl))
    (hdb : (x == ("__debug__" : Str)) = false := by decide) (hcd : (x == ("__classdict__" : Str)) = false := by decide)
    (he : starEach (e :: es) X.env = (false, eval e X.env) :: starEach es X.env := by rfl) (hpl : (backTo pos (starEach es X.env)).any (·.1) = false := by rfl) :
    PE X (.Call (.Name x p) (e :: es) [] pos) (tMakeL i (gA "Order" X.K) sp E0 t) := by
  obtain ⟨⟨fd, F, b⟩, kp⟩ := c
  exact pe_makeL T.mkr F hr hN hv b pass0 ha hdb hcd he hpl
end
section
variable {P : Program} {w : World} {K : PySem.W.Frag} {mg : Str → Option Value} {base : Heap}
/-- a new order -/
theorem made_ord {H H' : Hp} {x dx : Addr} {C : Addr} (hx : H x = none) (hdx : H dx = none) (ne : dx ≠ x) (k : Kp x dx (upd (upd H dx (.own x)) x (.ins C dx [])) H') : Same H H' := fun b o hb => by
  have h1 : b ≠ x := ne_of_none hb hx
  have h2 : b ≠ dx := ne_of_none hb hdx
  exact k b o h1 h2 (by rw [upd_ne h1, upd_ne h2]; exact hb)
theorem init_of {H : Hp} {a b : Addr} {u l : List Str} {Q : VK} {E : XK} (R : Rows u l) (ea : H a = some (.tup (sV u))) (eb : H b = some (.tup (sV l))) (q : ∀ H' x, Same H H' → OrdAt K H' x u l → Q (.ref x) H') (x dx : Addr) (hx : H x = none) (hdx : H dx = none) (ne : dx ≠ x) :
    spInit K (.ref x :: [.ref a, .ref b]) (upd (upd H dx (.own x)) x (.ins (gA "Order" K) dx [])) (fun v H2 => v = .non ∧ Q (.ref x) H2) E := by
  refine ⟨x, dx, a, b, u, l, rfl, upd_same, by rw [upd_ne ne, upd_same], ne, ?_, ?_, R, fun H' k o => ⟨rfl, q H' x (made_ord hx hdx ne k) o⟩⟩
  · rw [upd_ne (ne_of_none ea hx), upd_ne (ne_of_none ea hdx)]; exact ea
  · rw [upd_ne (ne_of_none eb hx), upd_ne (ne_of_none eb hdx)]; exact eb
theorem sc_Order_read : FnScope ["cls", "upper", "lower", "first", "second"] ["cls", "upper", "lower"] (defScope dRead.st) := ⟨rfl, rfl, rfl, by decide +kernel, rfl, by decide +kernel, by decide +kernel⟩
def spRead (K : PySem.W.Frag) : Sp := fun vs H Q _ => ∃ (s t : Str) (u l : List Str), vs = [.ref (gA "Order" K), .str s, .str t] ∧ Txt.split s " " = u ∧ Txt.split t " " = l ∧ s.length ≤ 100 ∧ t.length ≤ 100 ∧ Rows u l ∧ ∀ H' a, Same H H' → OrdAt K H' a u l → Q (.ref a) H'
theorem ok_read (T : Txt K mg) : Cal P w K mg base 5 dRead ["cls", "upper", "lower"] (spRead K) := by
  have C_row_in := ok_row_in (P := P) (w := w) (base := base) T
  have C_init := ok_init (P := P) (w := w) (base := base) T
  refine Cal.of T (List.mem_of_getElem? (i := 6) rfl) sc_Order_read (fun _ _ _ _ _ _ us hl => match us, hl with | [_, _, _], _ => rfl) (fun vs H Q E h => ?_) (fun cdv A outer s H vs Q E hr h => ?_)
  · obtain ⟨s, t, u, l, rfl, _⟩ := h
    rfl
  · obtain ⟨s, t, u, l, rfl, es, et, hs, ht, R, q⟩ := h
    refine ⟨_, PSs.nox (pss_cons (ps_par (i := 3) (j := 4) (by rfl) sc_Order_read.nd rfl rfl (by decide) rfl rfl (pa_cons (pe_cal C_row_in (hr.mono (by decide)) (T.g "row_in") (pa_cons (pv 1) pa_nil)) (pa_cons (pe_cal C_row_in (hr.mono (by decide)) (T.g "row_in") (pa_cons (pv 2) pa_nil)) pa_nil)) (by rfl))
      (pss_cons (ps_if (PW.pt (pw_or (pt_cmpR op_isN (pv 3) pe_non (nomark _)) (pw_or1 (pt_cmpR op_isN (pv 4) pe_non (nomark _)))))
      pss_never
      pss_nil)
      (pss_one (ps_ret (pe_makeO T C_init (hr.mono (by decide)) 0 (pa_cons (pv 3) (pa_cons (pv 4) pa_nil))))))), ?_⟩
    refine ⟨.str s, rfl, s, u, rfl, es, hs, R.row, fun H1 a s1 ea => ⟨.str t, rfl, t, l, rfl, et, ht, R.rowL, fun H2 b s2 eb => ?_⟩⟩
    refine ⟨_, _, rfl, _, rfl, rfl, _, rfl, itF rfl ⟨_, rfl, rfl, _, rfl, itF rfl ?_⟩⟩
    refine ⟨rfl, _, rfl, _, rfl, fun x dx hx hdx ne => init_of R (s2 _ _ ea) eb (fun H' y sm o => q H' y ((s1.trans s2).trans sm) o) x dx hx hdx ne⟩
theorem sc_Order_above : FnScope ["self"] ["self"] (defScope dAbove.st) := ⟨rfl, rfl, rfl, by decide +kernel, rfl, by decide +kernel, by decide +kernel⟩
theorem sc_Order_below : FnScope ["self"] ["self"] (defScope dBelow.st) := ⟨rfl, rfl, rfl, by decide +kernel, rfl, by decide +kernel, by decide +kernel⟩
theorem sc_Order_places : FnScope ["self"] ["self"] (defScope dPlaces.st) := ⟨rfl, rfl, rfl, by decide +kernel, rfl, by decide +kernel, by decide +kernel⟩
def spAbove (K : PySem.W.Frag) : Sp := fun vs H Q _ => ∃ a u l, vs = [.ref a] ∧ OrdAt K H a u l ∧ ∀ r, H r = some (.tup (sV u)) → Q (.ref r) H
def spBelow (K : PySem.W.Frag) : Sp := fun vs H Q _ => ∃ a u l, vs = [.ref a] ∧ OrdAt K H a u l ∧ ∀ r, H r = some (.tup (sV l)) → Q (.ref r) H
def spPlaces (K : PySem.W.Frag) : Sp := fun vs H Q _ => ∃ a u l, vs = [.ref a] ∧ OrdAt K H a u l ∧ ∀ r, PT H r (K49.placesOf u l) → Q (.ref r) H
theorem ok_above (T : Txt K mg) : Cal P w K mg base 1 dAbove ["self"] (spAbove K) := by
  refine Cal.of T (List.mem_of_getElem? (i := 7) rfl) sc_Order_above (fun _ _ _ _ _ _ us hl => match us, hl with | [_], _ => rfl) (fun vs H Q E h => ?_) (fun cdv A outer s H vs Q E hr h => ?_)
  · obtain ⟨a, u, l, rfl, _⟩ := h
    rfl
  · obtain ⟨a, u, l, rfl, ⟨R, dx, vs, up, lo, pl, ua, S, l7, l1, l5, l0, l8, eu, el, ep, ek⟩, q⟩ := h
    refine ⟨_, PSs.nox (pss_one (ps_ret (SlX.pe_sl (pv 0)))), ?_⟩
    exact ⟨.ref a, rfl, a, _, dx, _, _, 7, _, rfl, S, T.cls, T.sl "own_upper" 7, l7, q _ eu⟩
theorem ok_below (T : Txt K mg) : Cal P w K mg base 1 dBelow ["self"] (spBelow K) := by
  refine Cal.of T (List.mem_of_getElem? (i := 8) rfl) sc_Order_below (fun _ _ _ _ _ _ us hl => match us, hl with | [_], _ => rfl) (fun vs H Q E h => ?_) (fun cdv A outer s H vs Q E hr h => ?_)
  · obtain ⟨a, u, l, rfl, _⟩ := h
    rfl
  · obtain ⟨a, u, l, rfl, ⟨R, dx, vs, up, lo, pl, ua, S, l7, l1, l5, l0, l8, eu, el, ep, ek⟩, q⟩ := h
    refine ⟨_, PSs.nox (pss_one (ps_ret (SlX.pe_sl (pv 0)))), ?_⟩
    exact ⟨.ref a, rfl, a, _, dx, _, _, 1, _, rfl, S, T.cls, T.sl "own_lower" 1, l1, q _ el⟩
theorem ok_places (T : Txt K mg) : Cal P w K mg base 1 dPlaces ["self"] (spPlaces K) := by
  refine Cal.of T (List.mem_of_getElem? (i := 9) rfl) sc_Order_places (fun _ _ _ _ _ _ us hl => match us, hl with | [_], _ => rfl) (fun vs H Q E h => ?_) (fun cdv A outer s H vs Q E hr h => ?_)
  · obtain ⟨a, u, l, rfl, _⟩ := h
    rfl
  · obtain ⟨a, u, l, rfl, ⟨R, dx, vs, up, lo, pl, ua, S, l7, l1, l5, l0, l8, eu, el, ep, ek⟩, q⟩ := h
    refine ⟨_, PSs.nox (pss_one (ps_ret (SlX.pe_sl (pv 0)))), ?_⟩
    exact ⟨.ref a, rfl, a, _, dx, _, _, 5, _, rfl, S, T.cls, T.sl "own_places" 5, l5, q _ ep⟩
theorem sc_Order_len : FnScope ["self"] ["self"] (defScope dLen.st) := ⟨rfl, rfl, rfl, by decide +kernel, rfl, by decide +kernel, by decide +kernel⟩
def spLen (K : PySem.W.Frag) : Sp := fun vs H Q _ => ∃ a u l, vs = [.ref a] ∧ OrdAt K H a u l ∧ Q (.int (u.length : Nat)) H
theorem ok_len (T : Txt K mg) : Cal P w K mg base 1 dLen ["self"] (spLen K) := by
  refine Cal.of T (List.mem_of_getElem? (i := 11) rfl) sc_Order_len (fun _ _ _ _ _ _ us hl => match us, hl with | [_], _ => rfl) (fun vs H Q E h => ?_) (fun cdv A outer s H vs Q E hr h => ?_)
  · obtain ⟨a, u, l, rfl, _⟩ := h
    rfl
  · obtain ⟨a, u, l, rfl, ⟨R, dx, vs, up, lo, pl, ua, S, l7, l1, l5, l0, l8, eu, el, ep, ek⟩, q⟩ := h
    refine ⟨_, PSs.nox (pss_one (ps_ret (pe_callB call_len_seq (by rfl) (T.f "len") PySem.boot_len (pa_cons (SlX.pe_sl (pv 0)) pa_nil)))), ?_⟩
    refine ⟨.ref a, rfl, a, _, dx, _, _, 7, _, rfl, S, T.cls, T.sl "own_upper" 7, l7, up, sV u, rfl, .inr (SqT.of eu), ?_⟩
    rw [sV_len]
    exact q
theorem sc_Order_contains : FnScope ["self", "value"] ["self", "value"] (defScope dContains.st) := ⟨rfl, rfl, rfl, by decide +kernel, rfl, by decide +kernel, by decide +kernel⟩
def spContains (K : PySem.W.Frag) : Sp := fun vs H Q _ => ∃ a u l x, vs = [.ref a, .str x] ∧ OrdAt K H a u l ∧ x ∈ u ∧ Q (.bl true) H
theorem ok_contains (T : Txt K mg) : Cal P w K mg base 1 dContains ["self", "value"] (spContains K) := by
  refine Cal.of T (List.mem_of_getElem? (i := 12) rfl) sc_Order_contains (fun _ _ _ _ _ _ us hl => match us, hl with | [_, _], _ => rfl) (fun vs H Q E h => ?_) (fun cdv A outer s H vs Q E hr h => ?_)
  · obtain ⟨a, u, l, x, rfl, _⟩ := h
    rfl
  · obtain ⟨a, u, l, x, rfl, ⟨R, dx, vs, up, lo, pl, ua, S, l7, l1, l5, l0, l8, eu, el, ep, ek⟩, hx, q⟩ := h
    refine ⟨_, PSs.nox (pss_one (ps_ret (pe_and (pe_callB call_isi (by rfl) (T.f "isinstance") (by decide +kernel) (pa_cons (pv 1) (pa_cons (pe_tyn (n := "str") (T.f "str")) pa_nil))) (pe_one (pe_cmp (pc_din (hu_of hr) (pv 1) (SlX.pe_sl (pv 0))) rfl))))), ?_⟩
    refine ⟨.str x, rfl, .str x, .ty "str", .type "str", .type "str", true, rfl, .ty _, .base (.str _), kit_self rfl, true, rfl, itT rfl ?_⟩
    refine ⟨.str x, rfl, .ref a, rfl, a, _, dx, _, _, 8, _, rfl, S, T.cls, T.sl "own_upper_at" 8, l8, ?_⟩
    exact ⟨ua, _, rfl, dget_str ek (kvO_at _ R.row.2.2.1 hx), q⟩
theorem sc_require_order : FnScope ["value"] ["value"] (defScope dReqOrder.st) := ⟨rfl, rfl, rfl, by decide +kernel, rfl, by decide +kernel, by decide +kernel⟩
def spReqOrder (K : PySem.W.Frag) : Sp := fun vs H Q _ => ∃ a u l, vs = [.ref a] ∧ OrdAt K H a u l ∧ Q .non H
theorem ok_require_order (T : Txt K mg) : Cal P w K mg base 1 dReqOrder ["value"] (spReqOrder K) := by
  refine Cal.of T (List.mem_of_getElem? (i := 14) rfl) sc_require_order (fun _ _ _ _ _ _ us hl => match us, hl with | [_], _ => rfl) (fun vs H Q E h => ?_) (fun cdv A outer s H vs Q E hr h => ?_)
  · obtain ⟨a, u, l, rfl, _⟩ := h
    rfl
  · obtain ⟨a, u, l, rfl, ⟨R, dx, vs, up, lo, pl, ua, S, l7, l1, l5, l0, l8, eu, el, ep, ek⟩, q⟩ := h
    refine ⟨_, PSs.nox (pss_one (ps_if (pt_not (pt_val (pe_callB (SlX.call_isiSl (.ref (gA "Order" K))) (by rfl) (T.f "isinstance") (by decide +kernel) (pa_cons (pv 0) (pa_cons (pe_gr (T.g "Order")) pa_nil)))))
      pss_never
      pss_nil)), ?_⟩
    refine ⟨.ref a, rfl, a, _, dx, vs, .ref (gA "Order" K), true, rfl, rfl, fun w h => h, S, T.cls, T.isi, kit_self (by simp), true, rfl, itF rfl q⟩
theorem sc_require_whole : FnScope ["value"] ["value"] (defScope dReqWhole.st) := ⟨rfl, rfl, rfl, by decide +kernel, rfl, by decide +kernel, by decide +kernel⟩
theorem ok_require_whole (T : Txt K mg) : Cal P w K mg base 1 dReqWhole ["value"] (spReqOrder K) := by
  refine Cal.of T (List.mem_of_getElem? (i := 15) rfl) sc_require_whole (fun _ _ _ _ _ _ us hl => match us, hl with | [_], _ => rfl) (fun vs H Q E h => ?_) (fun cdv A outer s H vs Q E hr h => ?_)
  · obtain ⟨a, u, l, rfl, _⟩ := h
    rfl
  · obtain ⟨a, u, l, rfl, ⟨R, dx, vs, up, lo, pl, ua, S, l7, l1, l5, l0, l8, eu, el, ep, ek⟩, q⟩ := h
    refine ⟨_, PSs.nox (pss_one (ps_if (PW.pt (pw_or (pt_not (pt_val (pe_callB (SlX.call_isiSl (.ref (gA "Order" K))) (by rfl) (T.f "isinstance") (by decide +kernel) (pa_cons (pv 0) (pa_cons (pe_gr (T.g "Order")) pa_nil))))) (pw_or1 (pt_not (pt_val (SlX.pe_sl (pv 0)))))))
      pss_never
      pss_nil)), ?_⟩
    refine ⟨.ref a, rfl, a, _, dx, vs, .ref (gA "Order" K), true, rfl, rfl, fun w h => h, S, T.cls, T.isi, kit_self (by simp), true, rfl, itF rfl ?_⟩
    exact ⟨.ref a, rfl, a, _, dx, _, _, 0, _, rfl, S, T.cls, T.sl "own_is_whole" 0, l0, true, rfl, itF rfl q⟩
end
end R49
set_option Elab.async false
set_option linter.all false
set_option maxRecDepth 100000
set_option maxHeartbeats 4000000
namespace R49
open PySem PySem.Spec PyProof.Rows L2
theorem idx_map {f : Str → Str} {u : List Str} (hf : ∀ x ∈ u, ∀ y ∈ u, f x = f y → x = y) : ∀ (l : List Str) (x : Str), (∀ y ∈ l, y ∈ u) → x ∈ u → (l.map f).idxOf (f x) = l.idxOf x
  | [], x, _, _ => rfl
  | a :: l, x, hl, hx => by
    rw [List.map_cons, List.idxOf_cons, List.idxOf_cons]
    by_cases e : a = x
    · subst e; simp
    · have : ¬ f a = f x := fun q => e (hf a (hl a (by simp)) x hx q)
      rw [beq_eq_false_iff_ne.mpr e, beq_eq_false_iff_ne.mpr this]
      simp only [cond_false, Bool.false_eq_true, if_false]
      rw [idx_map hf l x (fun y h => hl y (by simp [h])) hx]
theorem rows_map {f : Str → Str} {u l : List Str} (R : Rows u l) (hf : ∀ x ∈ u, ∀ y ∈ u, f x = f y → x = y) (ok : okRow (u.map f)) : Rows (u.map f) (l.map f) ∧ K49.placesOf (u.map f) (l.map f) = K49.placesOf u l := by
  have e : K49.placesOf (u.map f) (l.map f) = K49.placesOf u l := by
    unfold K49.placesOf
    rw [List.map_map]
    exact List.map_congr_left fun x hx => idx_map hf l x (fun y hy => R.ok.mem.mp hy) hx
  refine ⟨⟨⟨ok.2.2.1, R.ok.pm.map f⟩, ok, ?_⟩, e⟩
  rw [e, List.length_map]
  exact R.good
/-- an order that does not touch d -/
def OrdOff (K : PySem.W.Frag) (H : Hp) (d a : Addr) (u l : List Str) : Prop := ∀ o, OrdAt K (upd H d o) a u l
theorem same_updU {H H' : Hp} {d : Addr} {o : HO} (s : Same H H') : Same (upd H d o) (upd H' d o) := fun b x hb => by
  by_cases e : b = d
  · rw [e, upd_same] at hb ⊢; exact hb
  · rw [upd_ne e] at hb ⊢; exact s _ _ hb
theorem same_off {K : PySem.W.Frag} {H H' : Hp} {d a : Addr} {u l : List Str} (s : Same H H') (h : OrdOff K H d a u l) : OrdOff K H' d a u l := fun o => same_ord (same_updU s) (h o)
theorem off_ord {K : PySem.W.Frag} {H : Hp} {d a : Addr} {u l : List Str} {o : HO} (h : OrdOff K H d a u l) (e : H d = some o) : OrdAt K H a u l := by
  have := h o
  have z : upd H d o = H := by
    funext b
    by_cases eb : b = d
    · rw [eb, upd_same, e]
    · rw [upd_ne eb]
  rw [z] at this
  exact this
theorem unlock {H H3 : Hp} {d : Addr} {o o1 : HO} (s : Same (upd H d o1) H3) (e : H d = some o) : Same H (upd H3 d o) := fun b x hb => by
  by_cases eb : b = d
  · subst eb
    rw [upd_same]
    rw [e] at hb
    exact hb
  · rw [upd_ne eb]
    exact s _ _ (by rw [upd_ne eb]; exact hb)
theorem dget_lock {H : Hp} {d : Addr} {kvs : List (L2.Key × V)} {od : Obj} {x : Str} {v : V} (e : H d = some (.frz od (.dK kvs))) (h : valV kvs (Sum.inr x) = some v) : DGet H d (.str x) (some v) := .inl ⟨kvs, Sum.inr x, .inr ⟨od, e⟩, rfl, h.symm⟩
/-- the dict from names to names -/
def nmD (u ns : List Str) : List (L2.Key × V) := (u.zip ns).map fun p => ((Sum.inr p.1 : L2.Key), V.str p.2)
theorem nmD_len {u ns : List Str} (h : ns.length = u.length) : (nmD u ns).length = u.length := by simp [nmD, h]
theorem nmD_at {u ns : List Str} (h : ns.length = u.length) {i : Nat} {k : L2.Key} {v : V} (e : (nmD u ns)[i]? = some (k, v)) : ∃ x y, u[i]? = some x ∧ ns[i]? = some y ∧ k = Sum.inr x ∧ v = .str y := by
  unfold nmD at e
  rw [List.getElem?_map] at e
  cases q : (u.zip ns)[i]? with
  | none => rw [q] at e; cases e
  | some p =>
    rw [q] at e
    obtain ⟨x, y⟩ := p
    rw [List.getElem?_zip_eq_some] at q
    have e2 := Option.some.inj e
    exact ⟨x, y, q.1, q.2, (congrArg Prod.fst e2).symm, (congrArg Prod.snd e2).symm⟩
theorem nmD_val {u ns : List Str} (h : ns.length = u.length) (nd : u.Nodup) {i : Nat} {x y : Str} (hx : u[i]? = some x) (hy : ns[i]? = some y) : valV (nmD u ns) (Sum.inr x) = some (.str y) := by
  refine valV_at ?_ ?_
  · unfold nmD
    rw [List.map_map]
    have e : ((u.zip ns).map ((fun q : L2.Key × V => q.1) ∘ fun p : Str × Str => ((Sum.inr p.1 : L2.Key), V.str p.2))) = ((u.zip ns).map Prod.fst).map (Sum.inr : Str → L2.Key) := by rw [List.map_map]; rfl
    rw [e, List.map_fst_zip (by omega)]
    exact nodup_inr nd
  · unfold nmD
    refine List.mem_map.mpr ⟨(x, y), List.mem_iff_getElem?.mpr ⟨i, ?_⟩, rfl⟩
    rw [List.getElem?_zip_eq_some]
    exact ⟨hx, hy⟩
structure Naming (u ns : List Str) : Prop where
  len : ns.length = u.length
  nd : ns.Nodup
  ok : ∀ x ∈ ns, okName x
section
variable {P : Program} {w : World} {K : PySem.W.Frag} {mg : Str → Option Value} {base : Heap}
theorem sc_is_naming_of : FnScope ["order", "value", "found", "one", "name"] ["order", "value"] (defScope dNaming.st) := ⟨rfl, rfl, rfl, by decide +kernel, rfl, by decide +kernel, by decide +kernel⟩
def spNaming (K : PySem.W.Frag) : Sp := fun vs H Q _ => ∃ a d u l g ns, vs = [.ref a, .ref d] ∧ OrdOff K H d a u l ∧ H d = some (.dK (nmD g ns)) ∧ g.Perm u ∧ Naming g ns ∧ ∀ H', Same H H' → Q (.bl true) H'
theorem ok_naming (T : Txt K mg) : Cal P w K mg base 2 dNaming ["order", "value"] (spNaming K) := by
  have C_is_name := ok_is_name (P := P) (w := w) (base := base) T
  have C_contains := ok_contains (P := P) (w := w) (base := base) T
  refine Cal.of T (List.mem_of_getElem? (i := 13) rfl) sc_is_naming_of (fun _ _ _ _ _ _ us hl => match us, hl with | [_, _], _ => rfl) (fun vs H Q E h => ?_) (fun cdv A outer s H vs Q E hr h => ?_)
  · obtain ⟨a, d, u, l, g, ns, rfl, _⟩ := h
    rfl
  · obtain ⟨a, d, u, l, g, ns, rfl, off, ed, pm, N, q⟩ := h
    refine ⟨_, PSs.nox (pss_cons (ps_if (PW.pt (pw_or (pt_not (pt_val (pe_callB call_isi (by rfl) (T.f "isinstance") (by decide +kernel) (pa_cons (pv 1) (pa_cons (pe_tyn (n := "dict") (T.f "dict")) pa_nil))))) (pw_or (pt_cmpR op_ne (pe_callB call_lenD (by rfl) (T.f "len") PySem.boot_len (pa_cons (pv 1) pa_nil)) (pe_callB call_len_seq (by rfl) (T.f "len") PySem.boot_len (pa_cons (SlX.pe_sl (pv 0)) pa_nil)) (nomark _)) (pw_or1 (pt_not (pt_val (pe_callB (cr_all rfl) (by rfl) (T.f "all") (by decide +kernel) (pa_cons (pe_lock (pe_lc (own := [("one", 3)]) (g := (gName 3)) (tt := tYes) rfl sc_is_naming_of.nd (pi_keys (pv 1)) (blkOk_by (N := ["order", "value", "found", "one", "name"]) (sc := defScope dNaming.st) (by decide +kernel)) (fun _ _ _ _ _ => (pg_name (i := 3) sc_is_naming_of.nd rfl (Or.inl rfl))) (fun _ _ _ _ _ => pts_nil) (fun _ _ _ _ _ => (pe_cmpR (op_inOwn (T.own "__contains__" (by decide)).at_ (T.own "__contains__" (by decide)).fn C_contains.r (hr.mono (by decide)) pass0) (pv 3) (pv 0) (by rfl))))) pa_nil))))))))
      (pss_one (ps_ret pe_bl))
      pss_nil)
      (pss_cons (ps_lock (ps_setLc (i := 2) (own := [("one", 3)]) (g := (gName 3)) (tt := tYes) rfl sc_is_naming_of.nd rfl rfl (sw_true rfl rfl rfl (by decide +kernel)) (pi_keys (pv 1)) (blkOk_by (N := ["order", "value", "found", "one", "name"]) (sc := defScope dNaming.st) (by decide +kernel)) (fun _ _ _ _ _ => (pg_name (i := 3) sc_is_naming_of.nd rfl (Or.inl rfl))) (fun _ _ _ _ _ => pts_nil) (fun _ _ _ _ _ => (pe_dget (hu_of hr) (pv 1) (pv 3) (fun _ _ => rfl)))))
      (pss_one (ps_ret (pe_and (pe_callB (cr_all rfl) (by rfl) (T.f "all") (by decide +kernel) (pa_cons (pe_lc (own := [("name", 4)]) (g := (gName 4)) (tt := tYes) rfl sc_is_naming_of.nd (pi_list (pv 2)) (blkOk_by (N := ["order", "value", "found", "one", "name"]) (sc := defScope dNaming.st) (by decide +kernel)) (fun _ _ _ _ _ => (pg_name (i := 4) sc_is_naming_of.nd rfl (Or.inl rfl))) (fun _ _ _ _ _ => pts_nil) (fun _ _ _ _ _ => (pe_cal C_is_name (hr.mono (by decide)) (T.g "is_name") (pa_cons (pv 4) pa_nil)))) pa_nil)) (pe_one (pe_cmpR op_eq (pe_callB call_lenD (by rfl) (T.f "len") PySem.boot_len (pa_cons (pe_dc (own := [("name", 4)]) (g := (gName 4)) (tt := tYes) rfl sc_is_naming_of.nd (pi_list (pv 2)) (blkOk_by (N := ["order", "value", "found", "one", "name"]) (sc := defScope dNaming.st) (by decide +kernel)) (fun _ _ _ _ _ => (pg_name (i := 4) sc_is_naming_of.nd rfl (Or.inl rfl))) (fun _ _ _ _ _ => pts_nil) (fun _ _ _ _ _ => (pv 4)) (fun _ _ _ _ _ => pe_bl)) pa_nil)) (pe_callB call_len_seq (by rfl) (T.f "len") PySem.boot_len (pa_cons (pv 2) pa_nil)) (nomark _)))))))), ?_⟩
    have big := size_big
    have O := off_ord off ed
    obtain ⟨R, dx, vs, up, lo, pl, ua, S, l7, l1, l5, l0, l8, eu, el, ep, ek⟩ := id O
    obtain ⟨h1, h10, nd, hn⟩ := R.row
    have hl := nmD_len N.len
    have gu : g.length = u.length := pm.length_eq
    have ndg : g.Nodup := pm.nodup_iff.mpr nd
    refine ⟨.ref d, rfl, .ref d, .ty "dict", .type "dict", .type "dict", true, rfl, .ty _, .base (.dK ed), kit_self rfl, true, rfl, itF rfl ?_⟩
    refine ⟨.ref d, rfl, d, _, rfl, ed, .ref a, rfl, a, _, dx, _, _, 7, _, rfl, S, T.cls, T.sl "own_upper" 7, l7, up, sV u, rfl, .inr (SqT.of eu), rfl, _, rfl, itF ?_ ?_⟩
    · rw [hl, sV_len, gu]; simp
    refine ⟨d, _, ed, True.intro, fun od => ⟨.ref d, rfl, d, od, rfl, .inl ⟨_, upd_same, fun D nD => lc_it walk_keys (LcP (upd H d (.frz od (.dK (nmD g ns)))) D fun i => (List.replicate i true).map V.bl) (LcP.start nD rfl) (fun _ _ _ p => p.1 _ _ upd_same) (fun i v H3 H4 hi p y => ?_) (fun H3 p => ?_)⟩⟩⟩
    · obtain ⟨rfl, k, v, hkv, rfl⟩ := y
      obtain ⟨x, y, hx, hy, rfl, rfl⟩ := nmD_at N.len hkv
      have O3 : OrdAt K H4 a u l := same_ord p.1 (off _)
      obtain ⟨_, dx3, vs3, _, _, _, _, S3, _⟩ := id O3
      refine ⟨rfl, .str x, rfl, .ref a, rfl, a, dx3, vs3, rfl, S3, a, u, l, x, rfl, O3, pm.mem_iff.mp (List.mem_of_getElem? hx), true, rfl, p.step nD (Same.refl _) (by simp [List.replicate_succ']) (by simp; omega)⟩
    have nDd : D ≠ d := (ne_of_none upd_same nD).symm
    have s1 : Same H (upd H3 d (.dK (nmD g ns))) := unlock p.1 ed
    have e1 : (upd H3 d (.dK (nmD g ns))) d = some (.dK (nmD g ns)) := upd_same
    refine ⟨p.1 _ _ upd_same, D, List.replicate (nmD g ns).length true, rfl, SqL.of (by rw [upd_ne nDd]; exact p.2), _, rfl, itF (by simp) ?_⟩
    generalize upd H3 d (.dK (nmD g ns)) = H5 at s1 e1
    clear p nD nDd
    refine ⟨d, _, e1, True.intro, fun od => ⟨.ref d, rfl, d, od, rfl, .inl ⟨_, upd_same, fun D nD => lc_it walk_keys (LcP (upd H5 d (.frz od (.dK (nmD g ns)))) D fun i => sV (ns.take i)) (LcP.start nD rfl) (fun _ _ _ p => p.1 _ _ upd_same) (fun i v H3 H4 hi p y => ?_) (fun H6 p => ?_)⟩⟩⟩
    · obtain ⟨rfl, k, v, hkv, rfl⟩ := y
      obtain ⟨x, y, hx, hy, rfl, rfl⟩ := nmD_at N.len hkv
      refine ⟨rfl, .ref d, rfl, .str x, rfl, d, .str y, rfl, dget_lock (p.1 _ _ upd_same) (nmD_val N.len ndg hx hy), p.step nD (Same.refl _) (take_succ_map V.str hy) (len_take_small V.str (n := 10) (by omega) (by rw [N.len]; omega))⟩
    have nDd : D ≠ d := (ne_of_none upd_same nD).symm
    have s2 : Same H5 (upd H6 d (.dK (nmD g ns))) := unlock p.1 e1
    have eD : (upd H6 d (.dK (nmD g ns))) D = some (.lst (sV (ns.take (nmD g ns).length))) := by rw [upd_ne nDd]; exact p.2
    rw [List.take_of_length_le (by rw [hl, N.len]; exact Nat.le_refl _)] at eD
    refine ⟨p.1 _ _ upd_same, ?_⟩
    generalize upd H6 d (.dK (nmD g ns)) = H7 at s2 eD
    clear p nD nDd
    refine ⟨.ref D, rfl, D, rfl, ⟨_, SqL.of eD⟩, fun D2 nD2 => lc_it walk_list (LcP H7 D2 fun i => (List.replicate i true).map V.bl) (LcP.start nD2 rfl) (fun _ _ _ p => SqL.of (p.1 _ _ eD)) (fun i v H3 H4 hi p y => ?_) (fun H8 p8 => ?_)⟩
    · obtain ⟨rfl, hv⟩ := y
      obtain ⟨x, hx, rfl⟩ := sV_at hv
      have hi2 : i < ns.length := by rw [sV_len] at hi; exact hi
      exact ⟨rfl, _, rfl, x, rfl, N.ok x (List.mem_of_getElem? hx), fun H4 sm => p.step nD2 sm (by simp [List.replicate_succ']) (by have := N.len; simp; omega)⟩
    refine ⟨D2, List.replicate (sV ns).length true, rfl, SqL.of p8.2, _, rfl, itT (by simp) ?_⟩
    have eD8 := p8.1 _ _ eD
    refine ⟨.ref D, rfl, D, rfl, ⟨_, SqL.of eD8⟩, fun D3 nD3 => dc_it walk_list (DcP H8 D3 fun i => kvO (fun _ => .bl true) (ns.take i)) (DcP.start nD3 rfl) (fun _ _ _ p => SqL.of (p.1 _ _ eD8)) (fun i v H3 H4 hi p4 y => ?_) (fun H9 p9 => ?_)⟩
    · obtain ⟨rfl, hv⟩ := y
      obtain ⟨x, hx, rfl⟩ := sV_at hv
      exact ⟨rfl, _, rfl, p4.step nD3 (Same.refl _) rfl (kvO_succ (fun _ => .bl true) N.nd hx) (by have := N.len; rw [kvO_len, List.length_take]; omega)⟩
    have e9 : H9 D3 = some (.dK (kvO (fun _ => .bl true) (ns.take (sV ns).length))) := p9.2
    rw [List.take_of_length_le (by rw [sV_len]; exact Nat.le_refl _)] at e9
    refine ⟨D3, _, rfl, e9, .ref D, rfl, D, sV ns, rfl, .inl (SqL.of (p9.1 _ _ eD8)), rfl, ?_⟩
    have e : decide (V.int ((kvO (fun _ => V.bl true) ns).length : Nat) = V.int ((sV ns).length : Nat)) = true := by rw [kvO_len, sV_len]; exact decide_eq_true rfl
    rw [e]
    exact q _ (((s1.trans s2).trans p8.1).trans p9.1)
theorem sc_Order_renamed : FnScope ["self", "names", "name"] ["self", "names"] (defScope dRenamed.st) := ⟨rfl, rfl, rfl, by decide +kernel, rfl, by decide +kernel, by decide +kernel⟩
def nmF (u ns : List Str) (x : Str) : Str := ns.getD (u.idxOf x) ""
theorem nmF_at {u ns : List Str} (nd : u.Nodup) {i : Nat} {x y : Str} (hx : u[i]? = some x) (hy : ns[i]? = some y) : nmF u ns x = y := by
  unfold nmF
  obtain ⟨hi, rfl⟩ := List.getElem?_eq_some_iff.mp hx
  rw [nd.idxOf_getElem i hi, List.getD_eq_getElem?_getD, hy]
  rfl
theorem nmF_map {u ns : List Str} (nd : u.Nodup) (h : ns.length = u.length) : u.map (nmF u ns) = ns := by
  refine List.ext_getElem (by simp [h]) fun i h1 h2 => ?_
  rw [List.getElem_map]
  have hi : i < u.length := by simpa using h1
  exact nmF_at nd (List.getElem?_eq_getElem hi) (List.getElem?_eq_getElem h2)
def spRenamed (K : PySem.W.Frag) : Sp := fun vs H Q _ => ∃ a d u l g ns, vs = [.ref a, .ref d] ∧ OrdOff K H d a u l ∧ H d = some (.dK (nmD g ns)) ∧ g.Perm u ∧ Naming g ns ∧ ∀ H' r, Same H H' → OrdAt K H' r (u.map (nmF g ns)) (l.map (nmF g ns)) → Q (.ref r) H'
theorem ok_renamed (T : Txt K mg) : Cal P w K mg base 5 dRenamed ["self", "names"] (spRenamed K) := by
  have C_is_naming_of := ok_naming (P := P) (w := w) (base := base) T
  have C_init := ok_init (P := P) (w := w) (base := base) T
  refine Cal.of T (List.mem_of_getElem? (i := 10) rfl) sc_Order_renamed (fun _ _ _ _ _ _ us hl => match us, hl with | [_, _], _ => rfl) (fun vs H Q E h => ?_) (fun cdv A outer s H vs Q E hr h => ?_)
  · obtain ⟨a, d, u, l, g, ns, rfl, _⟩ := h
    rfl
  · obtain ⟨a, d, u, l, g, ns, rfl, off, ed, pm, N, q⟩ := h
    refine ⟨_, PSs.nox (pss_cons (ps_if (pt_not (pt_val (pe_cal C_is_naming_of (hr.mono (by decide)) (T.g "is_naming_of") (pa_cons (pv 0) (pa_cons (pv 1) pa_nil)))))
      pss_never
      pss_nil)
      (pss_one (ps_ret (pe_order T C_init (hr.mono (by decide)) (pa_cons (pe_callTy call_tuple_of (by rfl) (T.f "tuple") (by decide +kernel) (pa_cons (pe_lc (own := [("name", 2)]) (g := (gName 2)) (tt := tYes) rfl sc_Order_renamed.nd (pi_tup (SlX.pe_sl (pv 0))) (blkOk_by (N := ["self", "names", "name"]) (sc := defScope dRenamed.st) (by decide +kernel)) (fun _ _ _ _ _ => (pg_name (i := 2) sc_Order_renamed.nd rfl (Or.inl rfl))) (fun _ _ _ _ _ => pts_nil) (fun _ _ _ _ _ => (pe_dget (hu_of hr) (pv 1) (pv 2) (fun _ _ => rfl)))) pa_nil)) (pa_cons (pe_callTy call_tuple_of (by rfl) (T.f "tuple") (by decide +kernel) (pa_cons (pe_lc (own := [("name", 2)]) (g := (gName 2)) (tt := tYes) rfl sc_Order_renamed.nd (pi_tup (SlX.pe_sl (pv 0))) (blkOk_by (N := ["self", "names", "name"]) (sc := defScope dRenamed.st) (by decide +kernel)) (fun _ _ _ _ _ => (pg_name (i := 2) sc_Order_renamed.nd rfl (Or.inl rfl))) (fun _ _ _ _ _ => pts_nil) (fun _ _ _ _ _ => (pe_dget (hu_of hr) (pv 1) (pv 2) (fun _ _ => rfl)))) pa_nil)) pa_nil)))))), ?_⟩
    have big := size_big
    refine ⟨.ref a, rfl, .ref d, rfl, a, d, u, l, g, ns, rfl, off, ed, pm, N, fun H1 s1 => ⟨true, rfl, itF rfl ?_⟩⟩
    have ed1 := s1 _ _ ed
    obtain ⟨R, dx, vs, up, lo, pl, ua, S, l7, l1, l5, l0, l8, eu, el, ep, ek⟩ := same_ord s1 (off_ord off ed)
    obtain ⟨h1, h10, nd, hn⟩ := R.row
    obtain ⟨g1, g10, ndl, hnl⟩ := R.rowL
    have nlen := N.len
    have gu : g.length = u.length := pm.length_eq
    have ndg : g.Nodup := pm.nodup_iff.mpr nd
    have hmap := nmF_map ndg N.len
    have pmap : (g.map (nmF g ns)).Perm (u.map (nmF g ns)) := pm.map _
    rw [hmap] at pmap
    have okr : okRow (u.map (nmF g ns)) := ⟨by rw [List.length_map]; omega, by rw [List.length_map]; omega, pmap.nodup_iff.mp N.nd, fun x hx => N.ok x (pmap.mem_iff.mpr hx)⟩
    have inj : ∀ x ∈ u, ∀ y ∈ u, nmF g ns x = nmF g ns y → x = y := by
      intro x hx y hy e
      obtain ⟨i, hi⟩ := List.mem_iff_getElem?.mp (pm.mem_iff.mpr hx)
      obtain ⟨j, hj⟩ := List.mem_iff_getElem?.mp (pm.mem_iff.mpr hy)
      have hil := (List.getElem?_eq_some_iff.mp hi).1
      have hjl := (List.getElem?_eq_some_iff.mp hj).1
      have e1 := nmF_at ndg hi (List.getElem?_eq_getElem (show i < ns.length by omega))
      have e2 := nmF_at ndg hj (List.getElem?_eq_getElem (show j < ns.length by omega))
      rw [e1, e2] at e
      have eij : i = j := by
        have z1 := N.nd.idxOf_getElem i (by omega)
        have z2 := N.nd.idxOf_getElem j (by omega)
        rw [e] at z1
        exact z1.symm.trans z2
      subst eij
      rw [hi] at hj
      exact Option.some.inj hj
    obtain ⟨R2, _⟩ := rows_map R inj okr
    have val : ∀ x ∈ u, valV (nmD g ns) (Sum.inr x) = some (.str (nmF g ns x)) := by
      intro x hx
      obtain ⟨i, hi⟩ := List.mem_iff_getElem?.mp (pm.mem_iff.mpr hx)
      have hil := (List.getElem?_eq_some_iff.mp hi).1
      have e1 := List.getElem?_eq_getElem (show i < ns.length by omega)
      rw [nmF_at ndg hi e1]
      exact nmD_val N.len ndg hi e1
    refine ⟨.ref a, rfl, a, _, dx, _, _, 7, _, rfl, S, T.cls, T.sl "own_upper" 7, l7, up, rfl, ⟨_, SqT.of eu⟩, fun D nD => lc_it walk_tup (LcP H1 D fun i => sV ((u.take i).map (nmF g ns))) (LcP.start nD rfl) (fun _ _ _ p => SqT.of (p.1 _ _ eu)) (fun i v H3 H4 hi p y => ?_) (fun H3 p => ?_)⟩
    · obtain ⟨rfl, hv⟩ := y
      obtain ⟨x, hx, rfl⟩ := sV_at hv
      refine ⟨rfl, .ref d, rfl, .str x, rfl, d, _, rfl, dget_str (p.1 _ _ ed1) (val x (List.mem_of_getElem? hx)), p.step nD (Same.refl _) ?_ ?_⟩
      · show sV ((u.take (i + 1)).map (nmF g ns)) = _
        rw [List.take_add_one, hx, Option.toList_some, List.map_append]
        simp [sV]
      · rw [sV_len, List.length_map, List.length_take]; omega
    have e3 : H3 D = some (.lst (sV ((u.take (sV u).length).map (nmF g ns)))) := p.2
    rw [List.take_of_length_le (by rw [sV_len]; exact Nat.le_refl _)] at e3
    refine ⟨D, _, rfl, .inl ⟨SqL.of e3, fun ta nta => ?_⟩⟩
    have s3 : Same H1 (upd H3 ta (.tup (sV (u.map (nmF g ns))))) := Same.trans p.1 (same_upd nta)
    have ea3 : (upd H3 ta (.tup (sV (u.map (nmF g ns))))) ta = some (.tup (sV (u.map (nmF g ns)))) := upd_same
    generalize upd H3 ta (.tup (sV (u.map (nmF g ns)))) = H5 at s3 ea3
    refine ⟨.ref a, rfl, a, _, dx, _, _, 1, _, rfl, same_slt s3 S, T.cls, T.sl "own_lower" 1, l1, lo, rfl, ⟨_, SqT.of (s3 _ _ el)⟩, fun D nD => lc_it walk_tup (LcP H5 D fun i => sV ((l.take i).map (nmF g ns))) (LcP.start nD rfl) (fun _ _ _ p => SqT.of (p.1 _ _ (s3 _ _ el))) (fun i v H3 H4 hi p y => ?_) (fun H6 p => ?_)⟩
    · obtain ⟨rfl, hv⟩ := y
      obtain ⟨x, hx, rfl⟩ := sV_at hv
      refine ⟨rfl, .ref d, rfl, .str x, rfl, d, _, rfl, dget_str (p.1 _ _ (s3 _ _ ed1)) (val x (R.ok.mem.mp (List.mem_of_getElem? hx))), p.step nD (Same.refl _) ?_ ?_⟩
      · show sV ((l.take (i + 1)).map (nmF g ns)) = _
        rw [List.take_add_one, hx, Option.toList_some, List.map_append]
        simp [sV]
      · rw [sV_len, List.length_map, List.length_take]; omega
    have e6 : H6 D = some (.lst (sV ((l.take (sV l).length).map (nmF g ns)))) := p.2
    rw [List.take_of_length_le (by rw [sV_len]; exact Nat.le_refl _)] at e6
    refine ⟨D, _, rfl, .inl ⟨SqL.of e6, fun tb ntb => ?_⟩⟩
    have s6 : Same H5 (upd H6 tb (.tup (sV (l.map (nmF g ns))))) := Same.trans p.1 (same_upd ntb)
    exact fun x dx hx hdx ne => init_of R2 (s6 _ _ ea3) upd_same (fun H' y sm o => q H' y (((s1.trans s3).trans s6).trans sm) o) x dx hx hdx ne
end
end R49
set_option Elab.async false
set_option linter.all false
set_option maxRecDepth 100000
set_option maxHeartbeats 4000000
namespace R49
open PySem PySem.Spec PyProof.Rows L2
/-
0=places 1=kind 2=last 3=greatest 4=index 5=at 6=one
-/
/-! ### values by their types -/
inductive VT (H : Hp) : V → String → Prop where
  | non : VT H .non "NoneType"
  | bl (b : Bool) : VT H (.bl b) "bool"
  | int (i : Int) : VT H (.int i) "int"
  | str (x : Str) : VT H (.str x) "str"
  | tup {a : Addr} {xs : List V} (e : H a = some (.tup xs)) : VT H (.ref a) "tuple"
  | lst {a : Addr} {xs : List V} (e : H a = some (.lst xs)) : VT H (.ref a) "list"
  | dK {a : Addr} {xs : List (L2.Key × V)} (e : H a = some (.dK xs)) : VT H (.ref a) "dict"
theorem VT.ty {K : PySem.W.Frag} {H : Hp} {v : V} {n : String} (h : VT H v n) : TyX K H v (.type n) := by
  cases h with
  | non => exact .base .non
  | bl b => exact .base (.bl b)
  | int i => exact .base (.int i)
  | str x => exact .base (.str x)
  | tup e => exact .base (.tup e)
  | lst e => exact .base (.lst e)
  | dK e => exact .base (.dK e)
theorem VT.same {H H' : Hp} {v : V} {n : String} (s : Same H H') (h : VT H v n) : VT H' v n := by
  cases h with
  | non => exact .non
  | bl b => exact .bl b
  | int i => exact .int i
  | str x => exact .str x
  | tup e => exact .tup (s _ _ e)
  | lst e => exact .lst (s _ _ e)
  | dK e => exact .dK (s _ _ e)
theorem VT.kit {K : PySem.W.Frag} {H : Hp} {v : V} {n m : String} (h : VT H v n) (hm : m = "str" ∨ m = "tuple" ∨ m = "dict") : PySem.W.kitOne K (.type n) (.type m) = some (decide (n = m)) := by
  cases h <;> rcases hm with rfl | rfl | rfl <;> exact kit_ty (by decide +kernel)
/-- what is_walked says of a value -/
def WalkedV (H : Hp) (v : V) (b : Bool) : Prop := (∃ x : Str, v = .str x ∧ b = decide (x = "upper" ∨ x = "lower")) ∨ (b = false ∧ ∃ n, VT H v n ∧ n ≠ "str")
theorem WalkedV.same {H H' : Hp} {v : V} {b : Bool} (s : Same H H') (h : WalkedV H v b) : WalkedV H' v b := by
  rcases h with h | ⟨h, n, t, hn⟩
  · exact .inl h
  · exact .inr ⟨h, n, t.same s, hn⟩
/-- what is_course says of a value -/
def CourseV (H : Hp) (v : V) (b : Bool) : Prop := (∃ (a : Addr) (xs : List V) (bs : List Bool), v = .ref a ∧ H a = some (.tup xs) ∧ xs.length ≤ 4000 ∧ bs.length = xs.length ∧ (∀ (i : Nat) (x : V), xs[i]? = some x → ∃ c, bs[i]? = some c ∧ WalkedV H x c) ∧ b = bs.all id) ∨ (b = false ∧ ∃ n, VT H v n ∧ n ≠ "tuple")
/-! ### slices of tuples -/
theorem slA {K : PySem.W.Frag} {H : Hp} {a : Addr} {xs : List V} {lo hi : Option Int} {Q : VK} (ea : H a = some (.tup xs)) (q : ∀ H' r, Same H H' → H' r = some (.tup (cutV xs lo hi)) → Q (.ref r) H') : rSlA K (.ref a) lo hi H Q := by
  refine ⟨a, xs, rfl, SqT.of ea, fun z => q H a (Same.refl _) ?_, fun _ p np => q _ p (same_upd np) upd_same⟩
  have e : cutV xs lo hi = xs := by
    unfold cutV
    rw [z.1, z.2]
    simp
  rw [e]
  exact ea
theorem slB {K : PySem.W.Frag} {H : Hp} {a : Addr} {xs : List V} {lo hi : Option Int} {Q : VK} (ea : SqT K H a xs) (q : ∀ H' r, Same H H' → SqT K H' r (cutV xs lo hi) → Q (.ref r) H') : rSlA K (.ref a) lo hi H Q := by
  refine ⟨a, xs, rfl, ea, fun z => q H a (Same.refl _) ?_, fun _ p np => q _ p (same_upd np) (SqT.of upd_same)⟩
  have e : cutV xs lo hi = xs := by
    unfold cutV
    rw [z.1, z.2]
    simp
  rw [e]
  exact ea
theorem cut_to (xs : List V) (n : Nat) (h : n ≤ xs.length) : cutV xs none (some (n : Int)) = xs.take n := by
  unfold cutV
  rw [HT.sIx_nat, HT.sIx_none, Nat.min_eq_left h]
  simp
theorem cut_from (xs : List V) (n : Nat) (h : n ≤ xs.length) : cutV xs (some (n : Int)) none = xs.drop n := by
  unfold cutV
  rw [HT.sIx_nat, HT.sIx_none, Nat.min_eq_left h, List.take_of_length_le (by rw [List.length_drop]; omega)]
theorem cut_mid (xs : List V) (n m : Nat) (h : n ≤ xs.length) (h2 : m ≤ xs.length) : cutV xs (some (n : Int)) (some (m : Int)) = (xs.drop n).take (m - n) := by
  unfold cutV
  rw [HT.sIx_nat, HT.sIx_nat, Nat.min_eq_left h, Nat.min_eq_left h2]
theorem sIx_m1 (n d : Nat) : HT.sIx n d (some (-1)) = n - 1 := by
  show (if (-1 : Int) < 0 then ((-1 : Int) + (n : Int)).toNat else min (-1 : Int).toNat n) = n - 1
  rw [if_pos (by decide)]
  omega
theorem cut_init (xs : List V) : cutV xs none (some (-1)) = xs.dropLast := by
  unfold cutV
  rw [sIx_m1, HT.sIx_none, List.dropLast_eq_take]
  simp
theorem atI_lastD {xs : List V} {v : V} (h : xs.getLast? = some v) : atI xs (-1) = some v := by
  obtain ⟨ys, rfl⟩ := List.getLast?_eq_some_iff.mp h
  exact atI_last ys v
section
variable {P : Program} {w : World} {K : PySem.W.Frag} {mg : Str → Option Value} {base : Heap}
/-! ### is_walked, is_course -/
theorem sc_is_walked : FnScope ["value"] ["value"] (defScope dIsWalked.st) := ⟨rfl, rfl, rfl, by decide +kernel, rfl, by decide +kernel, by decide +kernel⟩
def spIsWalked : Sp := fun vs H Q _ => ∃ v b, vs = [v] ∧ WalkedV H v b ∧ Q (.bl b) H
theorem inV_walked (x : Str) : inV (.str x) [.str "upper", .str "lower"] = decide (x = "upper" ∨ x = "lower") := by
  show ((("upper" : Str) == x) || ((("lower" : Str) == x) || false)) = _
  rw [Bool.eq_iff_iff]
  simp only [Bool.or_false, Bool.or_eq_true, beq_iff_eq, decide_eq_true_eq]
  constructor
  · rintro (e | e)
    · exact .inl e.symm
    · exact .inr e.symm
  · rintro (e | e)
    · exact .inl e.symm
    · exact .inr e.symm
theorem ok_is_walked (T : Txt K mg) : Cal P w K mg base 1 dIsWalked ["value"] spIsWalked := by
  refine Cal.of T (List.mem_of_getElem? (i := 16) rfl) sc_is_walked (fun _ _ _ _ _ _ us hl => match us, hl with | [_], _ => rfl) (fun vs H Q E h => ?_) (fun cdv A outer s H vs Q E hr h => ?_)
  · obtain ⟨v, b, rfl, _⟩ := h
    rfl
  · obtain ⟨v, b, rfl, hw, q⟩ := h
    refine ⟨_, PSs.nox (pss_one (ps_ret (pe_and (pe_callB call_isi (by rfl) (T.f "isinstance") (by decide +kernel) (pa_cons (pv 0) (pa_cons (pe_tyn (n := "str") (T.f "str")) pa_nil))) (pe_one (pe_cmpR op_in_seq (pv 0) (pe_gr (T.g "WALKED")) (by rfl)))))), ?_⟩
    rcases hw with ⟨x, rfl, rfl⟩ | ⟨rfl, n, t, hn⟩
    · refine ⟨.str x, rfl, .str x, .ty "str", .type "str", .type "str", true, rfl, .ty _, .base (.str _), kit_self rfl, true, rfl, itT rfl ?_⟩
      refine ⟨.str x, rfl, _, _, rfl, .inr (T.wk _), rfl, by decide, ?_⟩
      show Q (.bl (inV (.str x) [.str "upper", .str "lower"])) H
      rw [inV_walked]
      exact q
    · refine ⟨v, rfl, v, .ty "str", _, .type "str", _, rfl, .ty _, t.ty, t.kit (.inl rfl), _, rfl, itF (decide_eq_false hn) q⟩
theorem sc_is_course : FnScope ["value", "one"] ["value"] (defScope dIsCourse.st) := ⟨rfl, rfl, rfl, by decide +kernel, rfl, by decide +kernel, by decide +kernel⟩
def spIsCourse : Sp := fun vs H Q _ => ∃ v b, vs = [v] ∧ CourseV H v b ∧ ∀ H', Same H H' → Q (.bl b) H'
theorem ok_is_course (T : Txt K mg) : Cal P w K mg base 2 dIsCourse ["value"] spIsCourse := by
  have C_is_walked := ok_is_walked (P := P) (w := w) (base := base) T
  refine Cal.of T (List.mem_of_getElem? (i := 17) rfl) sc_is_course (fun _ _ _ _ _ _ us hl => match us, hl with | [_], _ => rfl) (fun vs H Q E h => ?_) (fun cdv A outer s H vs Q E hr h => ?_)
  · obtain ⟨v, b, rfl, _⟩ := h
    rfl
  · obtain ⟨v, b, rfl, hw, q⟩ := h
    refine ⟨_, PSs.nox (pss_one (ps_ret (pe_and (pe_callB call_isi (by rfl) (T.f "isinstance") (by decide +kernel) (pa_cons (pv 0) (pa_cons (pe_tyn (n := "tuple") (T.f "tuple")) pa_nil))) (pe_and (pe_cmpR op_le (pe_callB call_len_seq (by rfl) (T.f "len") PySem.boot_len (pa_cons (pv 0) pa_nil)) (pe_gi (T.i "MAX_ROUNDS" 4000)) (nomark _)) (pe_one (pe_callB (cr_all rfl) (by rfl) (T.f "all") (by decide +kernel) (pa_cons (pe_lc (own := [("one", 1)]) (g := (gName 1)) (tt := tYes) rfl sc_is_course.nd (pi_tup (pv 0)) (blkOk_by (N := ["value", "one"]) (sc := defScope dIsCourse.st) (by decide +kernel)) (fun _ _ _ _ _ => (pg_name (i := 1) sc_is_course.nd rfl (Or.inl rfl))) (fun _ _ _ _ _ => pts_nil) (fun _ _ _ _ _ => (pe_cal C_is_walked (hr.mono (by decide)) (T.g "is_walked") (pa_cons (pv 1) pa_nil)))) pa_nil))))))), ?_⟩
    have big := size_big
    rcases hw with ⟨a, xs, bs, rfl, ea, hl, hbl, hx, rfl⟩ | ⟨rfl, n, t, hn⟩
    · refine ⟨.ref a, rfl, .ref a, .ty "tuple", .type "tuple", .type "tuple", true, rfl, .ty _, .base (.tup ea), kit_self rfl, true, rfl, itT rfl ?_⟩
      refine ⟨.ref a, rfl, a, xs, rfl, .inr (SqT.of ea), _, _, rfl, rfl, _, rfl, itT (decide_eq_true (by omega)) ?_⟩
      refine ⟨.ref a, rfl, a, rfl, ⟨_, SqT.of ea⟩, fun D nD => lc_it walk_tup (LcP H D fun i => (bs.take i).map V.bl) (LcP.start nD rfl) (fun _ _ _ p => SqT.of (p.1 _ _ ea)) (fun i v H3 H4 hi p y => ?_) (fun H3 p => ?_)⟩
      · obtain ⟨rfl, hv⟩ := y
        obtain ⟨c, hc, wv⟩ := hx i v hv
        exact ⟨rfl, v, rfl, v, c, rfl, wv.same p.1, p.step nD (Same.refl _) (take_succ_map V.bl hc) (by rw [List.length_map, List.length_take]; omega)⟩
      · have e3 : H3 D = some (.lst ((bs.take xs.length).map V.bl)) := p.2
        rw [List.take_of_length_le (by omega)] at e3
        exact ⟨D, bs, rfl, SqL.of e3, q _ p.1⟩
    · refine ⟨v, rfl, v, .ty "tuple", _, .type "tuple", _, rfl, .ty _, t.ty, t.kit (.inr (.inl rfl)), _, rfl, itF (decide_eq_false hn) (q _ (Same.refl _))⟩
/-! ### next_places -/
def kN (k : Bool) : Str := if k then "upper" else "lower"
theorem sc_next_places : FnScope ["places", "kind", "last", "greatest", "index", "at", "one"] ["places", "kind"] (defScope dNext.st) := ⟨rfl, rfl, rfl, by decide +kernel, rfl, by decide +kernel, by decide +kernel⟩
def spNext : Sp := fun vs H Q _ => ∃ a p n k, vs = [.ref a, .str (kN k)] ∧ PT H a p ∧ K49.Good n p ∧ ∀ H' r, Same H H' → PT H' r (K49.next p k) → Q (.ref r) H'
theorem iV_last {p : List Nat} (h : p ≠ []) : (iV p).getLast? = some (.int ((p.getLastD 0 : Nat) : Int)) := by
  unfold iV
  rw [List.getLast?_map, List.getLastD_eq_getLast?]
  cases e : p.getLast? with
  | none => exact absurd (List.getLast?_eq_none_iff.mp e) h
  | some x => rfl
theorem ok_next_places (T : Txt K mg) : Cal P w K mg base 1 dNext ["places", "kind"] spNext := by
  refine Cal.of T (List.mem_of_getElem? (i := 18) rfl) sc_next_places (fun _ _ _ _ _ _ us hl => match us, hl with | [_, _], _ => rfl) (fun vs H Q E h => ?_) (fun cdv A outer s H vs Q E hr h => ?_)
  · obtain ⟨a, p, n, k, rfl, _⟩ := h
    rfl
  · obtain ⟨a, p, n, k, rfl, ea, G, q⟩ := h
    refine ⟨_, PSs.nox (pss_cons (ps_asg (pe_tup (pa_cons (pe_ix ix_tup (pv 0) (pe_un un_neg pe_int) (fun _ _ => rfl)) (pa_cons (pe_op op_sub (pe_callB call_len_seq (by rfl) (T.f "len") PySem.boot_len (pa_cons (pv 0) pa_nil)) pe_int) pa_nil))) (pg_tup rfl (pgs_cons (pg_name (i := 2) sc_next_places.nd rfl (Or.inr rfl)) (pgs_cons (pg_name (i := 3) sc_next_places.nd rfl (Or.inl rfl)) pgs_nil))))
      (pss_cons (ps_set (i := 4) sc_next_places.nd rfl (Or.inr rfl) (pe_tindex (pv 0) (pv 3)))
      (pss_cons (ps_if (pt_cmpR op_eq (pv 1) pe_str (nomark _))
      (pss_one (ps_ret (pe_tupP (StX.pa_star (pe_slice sl_tupA (pv 0) po_none (po_some (pe_op op_add (pv 4) pe_int))) (pa_cons (pv 2) (StX.pa_star (pe_slice sl_tupA (pv 0) (po_some (pe_op op_add (pv 4) pe_int)) (po_some (pv 3))) pa_nil))))))
      pss_nil)
      (pss_one (ps_ret (pe_callTy cr_tupP (by rfl) (T.f "tuple") (by decide +kernel) (pa_cons (pe_lc (own := [("at", 5), ("one", 6)]) (g := (gTup K 2 (gCons (gName 5) (gCons (gName 6) gNil)))) (tt := tYes) rfl sc_next_places.nd (pi_enumT (by rfl) (T.f "enumerate") (pa_cons (pv 0) pa_nil)) (blkOk_by (N := ["places", "kind", "last", "greatest", "index", "at", "one"]) (sc := defScope dNext.st) (by decide +kernel)) (fun _ _ _ _ _ => (pg_tup rfl (pgs_cons (pg_name (i := 5) sc_next_places.nd rfl (Or.inl rfl)) (pgs_cons (pg_name (i := 6) sc_next_places.nd rfl (Or.inl rfl)) pgs_nil)))) (fun _ _ _ _ _ => pts_nil) (fun _ _ _ _ _ => (pe_ifExp (pt_cmpR op_eq (pv 5) (pv 4) (nomark _)) (pe_op op_add (pv 2) pe_int) (pe_op op_add (pv 6) (pe_callTy call_int1 (by rfl) (T.f "int") (by decide +kernel) (pa_cons (pe_cmpR op_gt (pv 6) (pv 2) (nomark _)) pa_nil)))))) pa_nil))))))), ?_⟩
    have big := size_big
    have hl := iV_len p
    have hn := G.len
    have h2 := G.two
    have h5 := G.2.1
    have hne : p ≠ [] := fun e => by rw [e] at hn; simp at hn; omega
    have LO := K49.Good.loop G
    have nd := K49.permB_nd G.perm
    have eys : iV p = (p.map fun (n : Nat) => (n : Int)).map V.int := by simp [iV]
    have hjl : K49.ixP p < p.length := List.idxOf_lt_length_of_mem LO.top
    have hpj : p[K49.ixP p]? = some (p.length - 1) := by
      rw [List.getElem?_eq_getElem hjl]
      exact congrArg some (List.getElem_idxOf hjl)
    refine ⟨.ref a, rfl, 1, rfl, a, iV p, _, _, rfl, rfl, ea.sq, atI_lastD (iV_last hne), .ref a, rfl, a, iV p, rfl, .inr ea.sq, _, _, rfl, rfl, by show 2 ≤ _; omega, fun tp ntp => ?_⟩
    have s1 : Same H (upd H tp (.tup [.int ((p.getLastD 0 : Nat) : Int), .int (((iV p).length : Nat) - 1)])) := same_upd ntp
    refine ⟨tp, _, rfl, SqT.of upd_same, rfl, _, _, rfl, _, _, rfl, rfl, ?_⟩
    generalize upd H tp (.tup [.int ((p.getLastD 0 : Nat) : Int), .int (((iV p).length : Nat) - 1)]) = H1 at s1
    have ea1 := ea.same s1
    refine ⟨.ref a, rfl, a, p, rfl, ea1, _, rfl, p.length - 1, K49.ixP p, ?_, ea1, hpj, fun m hm z => ?_, ?_⟩
    · exact congrArg V.int (show ((((iV p).length : Nat) : Int) - 1) = ((p.length - 1 : Nat) : Int) by omega)
    · have hml := (List.getElem?_eq_some_iff.mp z).1
      have e1 := (List.getElem?_eq_some_iff.mp z).2
      have e2 := nd.idxOf_getElem m hml
      rw [e1] at e2
      have : K49.ixP p = m := e2
      omega
    cases k with
    | false =>
      refine ⟨_, rfl, rfl, _, rfl, itT (by decide) ?_⟩
      refine ⟨.ref a, rfl, _, rfl, _, _, rfl, rfl, _, rfl, slB ea1.sq fun H2 r2 s2 e2 => ⟨r2, _, rfl, .inl e2, _, rfl, .ref a, rfl, _, rfl, _, _, rfl, rfl, _, rfl, _, rfl, _, rfl, slB (ea1.same s2).sq fun H3 r3 s3 e3 => ⟨r3, _, rfl, .inl e3, ?_, fun o t ho nt => q _ t (((s1.trans s2).trans s3).trans (same_upd nt)) (PT.mk (o := o) ?_ ho)⟩⟩⟩
      · have z1 := cutV_length (iV p) none (some ((K49.ixP p : Nat) + 1))
        have z2 := cutV_length (iV p) (some ((K49.ixP p : Nat) + 1)) (some (((iV p).length : Nat) - 1))
        simp only [List.length_append, List.length_cons, List.length_nil]
        omega
      · rw [upd_same]
        congr 3
        have c1 : (((K49.ixP p : Nat) : Int) + 1) = ((K49.ixP p + 1 : Nat) : Int) := by omega
        have c2 : ((((iV p).length : Nat) : Int) - 1) = ((p.length - 1 : Nat) : Int) := by omega
        rw [c1, c2, cut_to _ _ (by omega), cut_mid _ _ _ (by omega) (by omega)]
        show _ = iV (K49.stepL p)
        unfold K49.stepL iV
        simp [List.map_take, List.map_drop, K49.lastP]
    | true =>
      refine ⟨_, rfl, rfl, _, rfl, itF (by decide) ?_⟩
      refine ⟨.ref a, rfl, a, iV p, rfl, ea1.sq, fun D nD => lc_it walk_T (LcP H1 D fun i => iV ((K49.stepU p).take i)) (LcP.start nD rfl) (fun _ _ _ p => (ea1.same p.1).sq) (fun i v H3 H4 hi pv y => ?_) (fun H3 pv => ?_)⟩
      · obtain ⟨Tu, xs, rfl, nT, rfl, z, hz, rfl⟩ := y
        obtain ⟨x, hx, rfl⟩ := iV_at hz
        have hu : (K49.stepU p)[i]? = some (K49.upF p i x) := by
          unfold K49.stepU
          rw [List.getElem?_mapIdx, hx]
          rfl
        have step : ∀ {y : V}, y = .int ((K49.upF p i x : Nat) : Int) → ∃ acc, (upd H3 Tu (.tup [.int (i : Nat), .int (x : Int)])) D = some (.lst acc) ∧ acc.length < sizeLine ∧ LcP H1 D (fun i => iV ((K49.stepU p).take i)) (i + 1) (upd (upd H3 Tu (.tup [.int (i : Nat), .int (x : Int)])) D (.lst (acc ++ [y]))) := by
          intro y ey
          refine pv.step nD (same_upd nT) ?_ ?_
          · rw [ey]
            exact take_succ_map (fun (n : Nat) => V.int (n : Int)) hu
          · rw [iV_len, List.length_take]
            have : (K49.stepU p).length = p.length := by unfold K49.stepU; rw [List.length_mapIdx]
            omega
        refine ⟨Tu, _, rfl, SqT.of upd_same, rfl, _, _, rfl, _, _, rfl, rfl, rfl, _, rfl, _, rfl, rfl, _, rfl, itE (fun e => ?_) (fun e => ?_)⟩
        · have ei : i = K49.ixP p := by
            have := V.int.inj (of_decide_eq_true e)
            omega
          refine ⟨_, rfl, _, _, rfl, rfl, step ?_⟩
          unfold K49.upF
          rw [if_pos ei]
          rfl
        · have ei : ¬ i = K49.ixP p := fun z => by
            rw [z] at e
            simp at e
          refine ⟨_, rfl, _, rfl, _, rfl, _, _, rfl, rfl, .inr ⟨_, rfl, _, _, rfl, rfl, step ?_⟩⟩
          unfold K49.upF
          rw [if_neg ei]
          by_cases hg : K49.lastP p < x
          · rw [if_pos hg, if_pos (by show decide ((x : Int) > ((p.getLastD 0 : Nat) : Int)) = true; exact decide_eq_true (by have : p.getLastD 0 < x := hg; omega))]
            rfl
          · rw [if_neg hg, if_neg (by show ¬ decide ((x : Int) > ((p.getLastD 0 : Nat) : Int)) = true; rw [decide_eq_true_eq]; have : ¬ p.getLastD 0 < x := hg; omega)]
            simp
      · have e3 : H3 D = some (.lst (iV ((K49.stepU p).take (iV p).length))) := pv.2
        have hsl : (K49.stepU p).length = p.length := by unfold K49.stepU; rw [List.length_mapIdx]
        rw [List.take_of_length_le (by omega)] at e3
        exact ⟨D, _, rfl, SqL.of e3, fun o t ho nt => q _ t ((s1.trans pv.1).trans (same_upd nt)) (PT.mk (o := o) upd_same ho)⟩
end
end R49
set_option Elab.async false
set_option linter.all false
set_option maxRecDepth 100000
set_option maxHeartbeats 4000000
namespace R49
open PySem PySem.Spec PyProof.Rows L2
/-
0=start 1=goal 2=found 3=layer 4=later 5=places 6=kind 7=behind
-/
/-! ### the search's dict and layers in the heap -/
def InfAt (H : Hp) (v : V) : Option (Bool × K49.Pl) → Prop
  | none => v = .non
  | some (k, u) => ∃ r s, v = .ref r ∧ H r = some (.tup [.str (kN k), .ref s]) ∧ PT H s u
def FdAt (P : Program) (w : World) (H : Hp) (d : Addr) (f : K49.Fd) : Prop := ∃ kvs, DX P w H d kvs ∧ Paired (fun (q : List L2.Key × V) (e : K49.Pl × K49.Inf) => q.1 = iK e.1 ∧ InfAt H q.2 e.2.2) kvs f
def LrAt (H : Hp) (a : Addr) (ps : List K49.Pl) : Prop := ∃ rs : List Addr, H a = some (.lst (rs.map V.ref)) ∧ Paired (fun r p => PT H r p) rs ps
/-- all but d stays -/
def Kd (d : Addr) (H H' : Hp) : Prop := ∀ c o, c ≠ d → H c = some o → H' c = some o
theorem Kd.refl (d : Addr) (H : Hp) : Kd d H H := fun _ _ _ h => h
theorem Kd.trans {d : Addr} {H H1 H2 : Hp} (a : Kd d H H1) (b : Kd d H1 H2) : Kd d H H2 := fun c o n h => b c o n (a c o n h)
theorem Same.kd {d : Addr} {H H' : Hp} (s : Same H H') : Kd d H H' := fun c o _ h => s c o h
/-- what stands at d is no tuple -/
def IsX (H : Hp) (d : Addr) : Prop := ∃ u, H d = some u ∧ (∀ xs, u ≠ .tup xs) ∧ ∀ o xs, u ≠ .frz o (.tup xs)
theorem Kd.ft {d : Addr} {H H' : Hp} (k : Kd d H H') (x : IsX H d) {a : Addr} {ks : List L2.Key} (h : FT H a ks) : FT H' a ks := by
  obtain ⟨u, e1, _, e3⟩ := x
  obtain ⟨o, e, n⟩ := h
  refine ⟨o, k a _ (fun z => ?_) e, n⟩
  rw [z, e1] at e
  exact e3 _ _ (Option.some.inj e)
theorem Kd.pt {d : Addr} {H H' : Hp} (k : Kd d H H') (x : IsX H d) {a : Addr} {p : List Nat} (h : PT H a p) : PT H' a p := k.ft x h
theorem Kd.tup {d : Addr} {H H' : Hp} (k : Kd d H H') (x : IsX H d) {a : Addr} {p : List V} (h : H a = some (.tup p)) : H' a = some (.tup p) := by
  obtain ⟨u, e1, e2, _⟩ := x
  refine k a _ (fun z => ?_) h
  rw [z, e1] at h
  exact e2 _ (Option.some.inj h)
theorem isX_lst {H : Hp} {d : Addr} {xs : List V} (h : H d = some (.lst xs)) : IsX H d := ⟨_, h, (fun _ z => nomatch z), (fun _ _ z => nomatch z)⟩
theorem Kd.inf {d : Addr} {H H' : Hp} (k : Kd d H H') (x : IsX H d) {v : V} : ∀ {i : Option (Bool × K49.Pl)}, InfAt H v i → InfAt H' v i
  | none, h => h
  | some (b, u), ⟨r, s, e, h1, h2⟩ => ⟨r, s, e, k.tup x h1, k.pt x h2⟩
theorem inf_same {H H' : Hp} (s : Same H H') {v : V} : ∀ {i : Option (Bool × K49.Pl)}, InfAt H v i → InfAt H' v i
  | none, h => h
  | some (b, u), ⟨r, t, e, h1, h2⟩ => ⟨r, t, e, s _ _ h1, h2.same s⟩
theorem pair_imp {α β : Type} {F F' : α → β → Prop} (h : ∀ a b, F a b → F' a b) : ∀ {l : List α} {m : List β}, Paired F l m → Paired F' l m
  | _, _, .nil => .nil
  | _, _, .cons a t => .cons (h _ _ a) (pair_imp h t)
theorem DX.isX {P : Program} {w : World} {H : Hp} {d : Addr} {kvs : List (List L2.Key × V)} (h : DX P w H d kvs) : IsX H d := by
  obtain ⟨_, _, o, _, _, _, e, _⟩ := h
  exact ⟨_, e, (fun _ z => nomatch z), (fun _ _ z => nomatch z)⟩
theorem FdAt.isX {P : Program} {w : World} {H : Hp} {d : Addr} {f : K49.Fd} (h : FdAt P w H d f) : IsX H d := let ⟨_, h, _⟩ := h; h.isX
theorem FdAt.same {P : Program} {w : World} {H H' : Hp} {d : Addr} {f : K49.Fd} (s : Same H H') (h : FdAt P w H d f) : FdAt P w H' d f := by
  obtain ⟨kvs, h1, h2⟩ := h
  exact ⟨kvs, h1.same s, pair_imp (fun _ _ z => ⟨z.1, inf_same s z.2⟩) h2⟩
theorem LrAt.same {H H' : Hp} {a : Addr} {ps : List K49.Pl} (s : Same H H') (h : LrAt H a ps) : LrAt H' a ps := by
  obtain ⟨rs, h1, h2⟩ := h
  exact ⟨rs, s _ _ h1, pair_imp (fun _ _ z => z.same s) h2⟩
theorem LrAt.kd {d : Addr} {H H' : Hp} {a : Addr} {ps : List K49.Pl} (k : Kd d H H') (x : IsX H d) (ne : a ≠ d) (h : LrAt H a ps) : LrAt H' a ps := by
  obtain ⟨rs, h1, h2⟩ := h
  exact ⟨rs, k _ _ ne h1, pair_imp (fun _ _ z => k.pt x z) h2⟩
theorem DX.kd {P : Program} {w : World} {d l : Addr} {H H' : Hp} {kvs : List (List L2.Key × V)} (k : Kd l H H') (x : IsX H l) (ne : d ≠ l) (h : DX P w H d kvs) : DX P w H' d kvs := by
  obtain ⟨a, b, o, es, ep, xs, e, r, c⟩ := h
  exact ⟨a, b, o, es, ep, xs, k _ _ ne e, r.keeps fun a ks f => k.ft x f, c⟩
theorem LrAt.ne {P : Program} {w : World} {H : Hp} {d l : Addr} {kvs : List (List L2.Key × V)} {ps : List K49.Pl} (h : DX P w H d kvs) (r : LrAt H l ps) : d ≠ l := by
  obtain ⟨rs, h1, _⟩ := r
  obtain ⟨_, _, o, _, _, _, e, _⟩ := h
  intro z
  rw [← z, e] at h1
  cases h1
/-- the layer as data -/
def dP (ps : List K49.Pl) : List PyData := ps.map fun p => PyData.tuple (dI p)
theorem dpP {K : PySem.W.Frag} {H : Hp} : ∀ {rs : List Addr} {ps : List K49.Pl}, Paired (fun r p => PT H r p) rs ps → DpAll K H (rs.map V.ref) (dP ps)
  | _, _, .nil => .nil
  | _, _, .cons h t => .cons (.tup h.sq (dpI _)) (dpP t)
theorem layP : ∀ ps : List K49.Pl, PyData.canLayAll0 (dP ps) = true ∧ PyData.depthAll (dP ps) ≤ 4
  | [] => ⟨rfl, by simp [dP, PyData.depthAll]⟩
  | p :: ps => by
    obtain ⟨a, b⟩ := layP ps
    obtain ⟨c, d⟩ := layI p
    refine ⟨?_, ?_⟩
    · show PyData.canLayAll0 (PyData.tuple (dI p) :: dP ps) = true
      simp [PyData.canLay0, PyData.canLayAll0, a, c]
    · show PyData.depthAll (PyData.tuple (dI p) :: dP ps) ≤ 4
      simp [PyData.depth, PyData.depthAll]
      omega
theorem shLP (ps : List K49.Pl) : SeqAt.shaped (.list (dP ps)) = true := by
  obtain ⟨a, b⟩ := layP ps
  simp [SeqAt.shaped, PyData.canLay0, PyData.depth, a]
  omega
theorem upd_kd (H : Hp) (l : Addr) (o : HO) : Kd l H (upd H l o) := fun c x n h => by rw [upd_ne n]; exact h
theorem fd_val {H : Hp} {kvs : List (List L2.Key × V)} {f : K49.Fd} (h : Paired (fun (q : List L2.Key × V) (e : K49.Pl × K49.Inf) => q.1 = iK e.1 ∧ InfAt H q.2 e.2.2) kvs f) (b : K49.Pl) :
    (valV kvs (iK b) = none ∧ b ∉ K49.keys f) ∨ ∃ v x, valV kvs (iK b) = some v ∧ K49.inf f b = some x ∧ InfAt H v x.2 := by
  induction h with
  | nil => exact .inl ⟨rfl, by simp [K49.keys]⟩
  | @cons q e qs es z t ih =>
    obtain ⟨z1, z2⟩ := z
    by_cases hb : e.1 = b
    · refine .inr ⟨q.2, e.2, valV_pos (by rw [z1, hb]), ?_, z2⟩
      unfold K49.inf
      rw [List.find?_cons_of_pos (by simpa using hb)]
      rfl
    · have hq : ¬ q.1 = iK b := fun y => hb (iK_inj (z1.symm.trans y))
      rcases ih with ⟨h1, h2⟩ | ⟨v, x, h1, h2, h3⟩
      · refine .inl ⟨by rw [valV_neg hq]; exact h1, ?_⟩
        intro hm
        rcases List.mem_cons.mp hm with e1 | e1
        · exact hb e1.symm
        · exact h2 e1
      · refine .inr ⟨v, x, by rw [valV_neg hq]; exact h1, ?_, h3⟩
        unfold K49.inf at h2 ⊢
        rw [List.find?_cons_of_neg (by simpa using hb)]
        exact h2
/-! ### the sizes of the search -/
theorem stp_le (d : Nat) (st : K49.Fd × List K49.Pl) (q : K49.Pl × Bool) : st.1.length ≤ (K49.stp d st q).1.length := by
  unfold K49.stp
  split
  · exact Nat.le_refl _
  · simp
theorem fold_le (d : Nat) : ∀ (l : List (K49.Pl × Bool)) (st : K49.Fd × List K49.Pl), st.1.length ≤ (l.foldl (K49.stp d) st).1.length
  | [], st => Nat.le_refl _
  | q :: l, st => by
    rw [List.foldl_cons]
    exact Nat.le_trans (stp_le d st q) (fold_le d l _)
theorem stp_bal (d : Nat) (st : K49.Fd × List K49.Pl) (q : K49.Pl × Bool) : (K49.stp d st q).2.length + st.1.length = (K49.stp d st q).1.length + st.2.length := by
  unfold K49.stp
  split
  · omega
  · simp; omega
theorem fold_bal (d : Nat) : ∀ (l : List (K49.Pl × Bool)) (st : K49.Fd × List K49.Pl), (l.foldl (K49.stp d) st).2.length + st.1.length = (l.foldl (K49.stp d) st).1.length + st.2.length
  | [], st => by simp; omega
  | q :: l, st => by
    rw [List.foldl_cons]
    have h1 := fold_bal d l (K49.stp d st q)
    have h2 := stp_bal d st q
    omega
/-- the state behind i places and j rounds of the next -/
def midS (s : K49.Pl) (t i j : Nat) : K49.Fd × List K49.Pl :=
  ((K49.prs ((K49.G s t).2.take i) ++ (match (K49.G s t).2[i]? with | some u => [(u, true), (u, false)].take j | none => [])).foldl (K49.stp (t + 1)) ((K49.G s t).1, []))
theorem midS_zero (s : K49.Pl) (t : Nat) : midS s t 0 0 = ((K49.G s t).1, []) := by
  unfold midS
  simp [K49.prs]
  split <;> rfl
theorem midS_00 (s : K49.Pl) (t i : Nat) : midS s t i 0 = (K49.prs ((K49.G s t).2.take i)).foldl (K49.stp (t + 1)) ((K49.G s t).1, []) := by
  unfold midS
  have : (match (K49.G s t).2[i]? with | some u => [(u, true), (u, false)].take 0 | none => []) = ([] : List (K49.Pl × Bool)) := by split <;> rfl
  rw [this, List.append_nil]
theorem midS_next (s : K49.Pl) (t i : Nat) {u : K49.Pl} (h : (K49.G s t).2[i]? = some u) : midS s t i 2 = midS s t (i + 1) 0 := by
  rw [midS_00]
  unfold midS
  rw [h]
  have e : (K49.G s t).2.take (i + 1) = (K49.G s t).2.take i ++ [u] := by rw [List.take_add_one, h]; rfl
  rw [e]
  congr 1
  unfold K49.prs
  rw [List.flatMap_append]
  rfl
theorem midS_one (s : K49.Pl) (t i j : Nat) {u : K49.Pl} {k : Bool} (h : (K49.G s t).2[i]? = some u) (hj : [true, false][j]? = some k) : midS s t i (j + 1) = K49.stp (t + 1) (midS s t i j) (u, k) := by
  unfold midS
  rw [h]
  have e : [(u, true), (u, false)].take (j + 1) = [(u, true), (u, false)].take j ++ [(u, k)] := by
    match j, hj with
    | 0, hj => cases hj; rfl
    | 1, hj => cases hj; rfl
  simp only [e]
  rw [← List.append_assoc, List.foldl_append]
  rfl
theorem midS_end (s : K49.Pl) (t : Nat) : midS s t (K49.G s t).2.length 0 = K49.G s (t + 1) := by
  rw [midS_00, List.take_length]
  rfl
theorem midS_len {n : Nat} {s : K49.Pl} (G : K49.Good n s) (t i j : Nat) (hj : j ≤ 2) (hi : i ≤ (K49.G s t).2.length) : (midS s t i j).1.length ≤ 71 ∧ (midS s t i j).2.length ≤ 71 := by
  have h1 := K49.found_len G (t + 1)
  have h2 : (midS s t i j).1.length ≤ (K49.G s (t + 1)).1.length := by
    rw [← midS_end]
    rw [midS_00, List.take_length]
    have e : ∃ rest, K49.prs (K49.G s t).2 = (K49.prs ((K49.G s t).2.take i) ++ (match (K49.G s t).2[i]? with | some u => [(u, true), (u, false)].take j | none => [])) ++ rest := by
      cases q : (K49.G s t).2[i]? with
      | none =>
        refine ⟨K49.prs ((K49.G s t).2.drop i), ?_⟩
        simp only [List.append_nil]
        unfold K49.prs
        rw [← List.flatMap_append, List.take_append_drop]
      | some u =>
        refine ⟨[(u, true), (u, false)].drop j ++ K49.prs ((K49.G s t).2.drop (i + 1)), ?_⟩
        have e1 : (K49.G s t).2 = (K49.G s t).2.take i ++ u :: (K49.G s t).2.drop (i + 1) := by
          obtain ⟨hi, rfl⟩ := List.getElem?_eq_some_iff.mp q
          simp
        conv => lhs; rw [e1]
        unfold K49.prs
        rw [List.flatMap_append, List.flatMap_cons]
        simp only [List.append_assoc]
        congr 1
        rw [← List.append_assoc, List.take_append_drop]
    obtain ⟨rest, er⟩ := e
    rw [er, List.foldl_append]
    exact fold_le _ _ _
  have h3 := fold_bal (t + 1) (K49.prs ((K49.G s t).2.take i) ++ (match (K49.G s t).2[i]? with | some u => [(u, true), (u, false)].take j | none => [])) ((K49.G s t).1, [])
  have h4 : (midS s t i j).2.length + (K49.G s t).1.length = (midS s t i j).1.length + 0 := h3
  omega
theorem pair_get {α β : Type} {F : α → β → Prop} : ∀ {l : List α} {m : List β} {i : Nat} {a : α} {b : β}, Paired F l m → l[i]? = some a → m[i]? = some b → F a b
  | _, _, 0, _, _, .cons h _, e1, e2 => by cases e1; cases e2; exact h
  | _, _, i + 1, _, _, .cons _ t, e1, e2 => pair_get t e1 e2
theorem layer_key {s : K49.Pl} {t i : Nat} {u : K49.Pl} (h : (K49.G s t).2[i]? = some u) : u ∈ K49.keys (K49.G s t).1 := by
  obtain ⟨i, hi⟩ := ((K49.gOk s t).lay u).mp (List.mem_of_getElem? h)
  exact K49.keys_mem.mpr ⟨t, i, hi⟩
section
variable {P : Program} {w : World} {K : PySem.W.Frag} {mg : Str → Option Value} {base : Heap}
theorem sc_require_few : FnScope ["order"] ["order"] (defScope dReqFew.st) := ⟨rfl, rfl, rfl, by decide +kernel, rfl, by decide +kernel, by decide +kernel⟩
theorem ok_require_few (T : Txt K mg) : Cal P w K mg base 3 dReqFew ["order"] (spReqOrder K) := by
  have C_len := ok_len (P := P) (w := w) (base := base) T
  refine Cal.of T (List.mem_of_getElem? (i := 19) rfl) sc_require_few (fun _ _ _ _ _ _ us hl => match us, hl with | [_], _ => rfl) (fun vs H Q E h => ?_) (fun cdv A outer s H vs Q E hr h => ?_)
  · obtain ⟨a, u, l, rfl, _⟩ := h
    rfl
  · obtain ⟨a, u, l, rfl, O, q⟩ := h
    refine ⟨_, PSs.nox (pss_one (ps_if (pt_cmpR op_gt (pe_callB (call_lenOwn (T.own "__len__" (by decide)).at_ (T.own "__len__" (by decide)).fn C_len.r (hr.mono (by decide)) pass0) (by rfl) (T.f "len") PySem.boot_len (pa_cons (pv 0) pa_nil)) (pe_gi (T.i "MAX_WALKED" 7)) (nomark _))
      pss_never
      pss_nil)), ?_⟩
    obtain ⟨R, dx, vs, up, lo, pl, ua, S, l7, l1, l5, l0, l8, eu, el, ep, ek⟩ := id O
    have h5 := R.good.2.1
    refine ⟨.ref a, rfl, a, dx, vs, rfl, S, a, u, l, rfl, O, _, rfl, by omega, by omega, _, _, rfl, rfl, _, rfl, itF ?_ q⟩
    exact decide_eq_false (by omega)
theorem sc_walked : FnScope ["start", "goal", "found", "layer", "later", "places", "kind", "behind"] ["start", "goal"] (defScope dWalked.st) := ⟨rfl, rfl, rfl, by decide +kernel, rfl, by decide +kernel, by decide +kernel⟩
def spWalked (P : Program) (w : World) : Sp := fun vs H Q _ => ∃ a b s g n, vs = [.ref a, .ref b] ∧ PT H a s ∧ PT H b g ∧ K49.Good n s ∧ ∀ H' d, Same H H' → FdAt P w H' d (K49.FP s g) → Q (.ref d) H'
theorem ok_walked (T : Txt K mg) : Cal P w K mg base 2 dWalked ["start", "goal"] (spWalked P w) := by
  have C_next_places := ok_next_places (P := P) (w := w) (base := base) T
  refine Cal.of T (List.mem_of_getElem? (i := 20) rfl) sc_walked (fun _ _ _ _ _ _ us hl => match us, hl with | [_, _], _ => rfl) (fun vs H Q E h => ?_) (fun cdv A outer st0 H vs Q E hr h => ?_)
  · obtain ⟨a, b, s, g, n, rfl, _⟩ := h
    rfl
  · obtain ⟨a, b, s, g, n, rfl, ea, eb, G, q⟩ := h
    refine ⟨_, PSs.nox (pss_cons (ps_par (i := 2) (j := 3) (by rfl) sc_walked.nd rfl rfl (by decide) rfl rfl (pa_cons (pe_x1 (hu_of hr) (pv 0) pe_non) (pa_cons (pe_lst (pa_cons (pv 0) pa_nil)) pa_nil)) (by rfl))
      (pss_cons (ps_while PassesOwn.never (PW.pt (pw_and (pt_cmpR (op_neD hr.units) (pv 3) (pe_lst pa_nil) (nomark _)) (pw_and1 (pt_cmpR (op_xnotin (hu_of hr)) (pv 1) (pv 2) (by rfl)))))
      (pss_cons (ps_set (i := 4) sc_walked.nd rfl (Or.inl rfl) (pe_lst pa_nil))
      (pss_cons (ps_for PassesOwn.never rfl (pi_list (pv 3)) (pg_name (i := 5) sc_walked.nd rfl (Or.inl rfl))
      (pss_one (ps_for PassesOwn.never rfl (pi_tup (pe_gr (T.g "WALKED"))) (pg_name (i := 6) sc_walked.nd rfl (Or.inl rfl))
      (pss_cons (ps_set (i := 7) sc_walked.nd rfl (Or.inl rfl) (pe_cal C_next_places (hr.mono (by decide)) (T.g "next_places") (pa_cons (pv 5) (pa_cons (pv 6) pa_nil))))
      (pss_one (ps_if (pt_cmpR (op_xnotin (hu_of hr)) (pv 7) (pv 2) (by rfl))
      (pss_cons (ps_xput (hu_of hr) (pv 2) (pv 7) (pe_tup (pa_cons (pv 6) (pa_cons (pv 5) pa_nil))) rfl)
      (pss_one (ps_expr (pe_bm PySem.F.plainAttrs_list PySem.F.slot_list_append PySem.F.type_list_append mt_append (pv 4) (pa_cons (pv 7) pa_nil)))))
      pss_nil))))))
      (pss_one (ps_set (i := 3) sc_walked.nd rfl (Or.inl rfl) (pe_callTy call_list_of (by rfl) (T.f "list") (by decide +kernel) (pa_cons (pv 4) pa_nil)))))))
      (pss_one (ps_ret (pv 2))))), ?_⟩
    have big := size_big
    have two := G.two
    refine fun d φ nd => ⟨_, rfl, upd_same, a, iK s, rfl, (ea.same (same_upd nd)), fun H3 hk hdx => ⟨_, rfl, by show 1 ≤ _; omega, fun ly nly => ⟨_, _, rfl, ?_⟩⟩⟩
    have s3 : Same H H3 := fun c o hc => (hk c (ne_of_none hc nd)).trans (by rw [upd_ne (ne_of_none hc nd)]; exact hc)
    have s4 : Same H3 (upd H3 ly (.lst [.ref a])) := same_upd nly
    refine ⟨fun m σ Hc => ∃ t ly y4 y5 y6 y7, m = K49.T s g - t ∧ t ≤ K49.T s g ∧ σ = [some (.ref a), some (.ref b), some (.ref d), some (.ref ly), y4, y5, y6, y7] ∧ Same H Hc ∧ FdAt P w Hc d (K49.G s t).1 ∧ LrAt Hc ly (K49.G s t).2,
      ⟨_, 0, ly, none, none, none, none, rfl, Nat.zero_le _, rfl, s3.trans s4, ⟨[(iK s, .non)], hdx.same s4, .cons ⟨rfl, rfl⟩ .nil⟩, ⟨[a], upd_same, .cons (ea.same (s3.trans s4)) .nil⟩⟩, fun m σ Hc hW => ?_⟩
    clear s3 s4 hk hdx nly
    obtain ⟨t, ly, y4, y5, y6, y7, rfl, ht, rfl, sc, fd, lr⟩ := hW
    obtain ⟨Tstop, T71, Tlow⟩ := K49.T_ok G g
    have stop : K49.stopB s g t = true → ∀ H', Same Hc H' → Q (.ref d) H' := by
      intro hs H' sm
      have et : t = K49.T s g := by
        rcases Nat.lt_or_ge t (K49.T s g) with hlt | hge
        · have := Tlow t hlt
          rw [this] at hs
          cases hs
        · omega
      refine q H' d (sc.trans sm) ?_
      have := fd.same sm
      rw [et] at this
      exact this
    obtain ⟨rs, er, pr⟩ := id lr
    obtain ⟨kvs, dx, pk⟩ := id fd
    refine ⟨_, rfl, Nat.zero_le _, fun e0 ne0 => ⟨.list (dP (K49.G s t).2), .list [], .lst (SqL.of ((same_upd ne0) _ _ er)) (dpP (pair_imp (fun _ _ z => PT.same (same_upd ne0) z) pr)), .lst (SqL.of upd_same) .nil, shLP _, rfl, _, rfl, ?_⟩⟩
    have s0 : Same Hc (upd Hc e0 (.lst [])) := same_upd ne0
    generalize upd Hc e0 (.lst []) = H0 at s0
    cases hps : (K49.G s t).2 with
    | nil =>
      refine itF rfl (itF rfl ⟨_, rfl, stop ?_ _ s0⟩)
      unfold K49.stopB
      rw [hps]
      rfl
    | cons u0 us0 =>
      refine itT rfl ⟨_, rfl, _, rfl, b, d, kvs, iK g, rfl, rfl, dx.same s0, (eb.same sc).same s0, _, rfl, ?_⟩
      rcases fd_val pk g with ⟨hv, hg⟩ | ⟨v, x, hv, hx, _⟩
      · -- a further layer
        have hlt : t < K49.T s g := by
          rcases Nat.lt_or_ge t (K49.T s g) with h | h
          · exact h
          · have et : t = K49.T s g := by omega
            rw [← et] at Tstop
            unfold K49.stopB at Tstop
            rw [hps] at Tstop
            simp [hg] at Tstop
        refine itT (by rw [hv]; rfl) ?_
        refine ⟨fun σ' H' => ∃ nl z4 z5 z6 z7, σ' = [some (.ref a), some (.ref b), some (.ref d), some (.ref nl), z4, z5, z6, z7] ∧ Same H H' ∧ FdAt P w H' d (K49.G s (t + 1)).1 ∧ LrAt H' nl (K49.G s (t + 1)).2, fun σ' H' hN => ?_, ?_⟩
        · obtain ⟨nl, z4, z5, z6, z7, e1, e2, e3, e4⟩ := hN
          exact ⟨K49.T s g - (t + 1), by omega, t + 1, nl, z4, z5, z6, z7, rfl, hlt, e1, e2, e3, e4⟩
        refine ⟨Nat.zero_le _, fun lt nlt => ?_⟩
        have s1 : Same H0 (upd H0 lt (.lst [])) := same_upd nlt
        have sc1 : Same H (upd H0 lt (.lst [])) := (sc.trans s0).trans s1
        have fd1 := (fd.same s0).same s1
        have lr1 := (lr.same s0).same s1
        have hlt0 : H lt = none := (sc.trans s0).free nlt
        have hd0 : H d = none := nd
        have lylt : ly ≠ lt := ne_of_none (s0 _ _ er) nlt
        have elt1 : LrAt (upd H0 lt (.lst [])) lt [] := ⟨[], upd_same, .nil⟩
        have er1 : (upd H0 lt (.lst [])) ly = some (.lst (rs.map V.ref)) := s1 _ _ (s0 _ _ er)
        generalize upd H0 lt (.lst []) = H1 at sc1 fd1 lr1 elt1 er1
        have hlen : rs.length = (K49.G s t).2.length := Paired.length pr
        refine ⟨_, rfl, ly, rfl, ⟨_, SqL.of er1⟩, for_list (xs := rs.map V.ref) (fun i σ H3 => ∃ y5 y6 y7, σ = [some (.ref a), some (.ref b), some (.ref d), some (.ref ly), some (.ref lt), y5, y6, y7] ∧ Same H H3 ∧ FdAt P w H3 d (midS s t i 0).1 ∧ LrAt H3 lt (midS s t i 0).2 ∧ LrAt H3 ly (K49.G s t).2 ∧ H3 ly = some (.lst (rs.map V.ref)))
          ⟨y5, y6, y7, rfl, sc1, by rw [midS_zero]; exact fd1, by rw [midS_zero]; exact elt1, lr1, er1⟩ (fun i σ H3 _ ⟨_, _, _, _, _, _, _, _, e⟩ => SqL.of e) (fun i v3 σ H3 hv3 hp => ?_) (fun σ H3 hp => ?_)⟩
        · obtain ⟨y5, y6, y7, rfl, s3, fd3, lt3, lr3, er3⟩ := hp
          have hi : i < rs.length := by
            have := (List.getElem?_eq_some_iff.mp hv3).1
            simpa using this
          have hri : rs[i]? = some rs[i] := List.getElem?_eq_getElem hi
          have ev3 : v3 = .ref rs[i] := by
            rw [List.getElem?_map, hri] at hv3
            exact (Option.some.inj hv3).symm
          subst ev3
          have hui : i < (K49.G s t).2.length := by omega
          have hu : (K49.G s t).2[i]? = some (K49.G s t).2[i] := List.getElem?_eq_getElem hui
          generalize (K49.G s t).2[i] = u at hu
          have hpu : PT H3 rs[i] u := by
            obtain ⟨rs', e1, e2⟩ := id lr3
            rw [er3] at e1
            have e3 : rs.map V.ref = rs'.map V.ref := by
              have := Option.some.inj e1
              injection this
            have e4 : rs = rs' := by
              refine (List.map_inj_right (f := V.ref) fun x y z => by injection z).mp e3
            subst e4
            exact pair_get e2 hri hu
          have Gu : K49.Good n u := K49.key_good G (t := t) (layer_key hu)
          generalize rs[i] = pu at hpu
          refine ⟨_, rfl, ⟨_, T.wk _⟩, for_tup (xs := [.str "upper", .str "lower"]) (fun j σ H4 => ∃ y6 y7, σ = [some (.ref a), some (.ref b), some (.ref d), some (.ref ly), some (.ref lt), some (.ref pu), y6, y7] ∧ Same H H4 ∧ FdAt P w H4 d (midS s t i j).1 ∧ LrAt H4 lt (midS s t i j).2 ∧ LrAt H4 ly (K49.G s t).2 ∧ H4 ly = some (.lst (rs.map V.ref)) ∧ PT H4 pu u)
            ⟨y6, y7, rfl, s3, fd3, lt3, lr3, er3, hpu⟩ (fun _ _ _ _ _ => T.wk _) (fun j v4 σ H4 hv4 hp => ?_) (fun σ H4 hp => ?_)⟩
          · obtain ⟨y6, y7, rfl, s4, fd4, lt4, lr4, er4, hpu4⟩ := hp
            have hj : j < 2 := (List.getElem?_eq_some_iff.mp hv4).1
            obtain ⟨k, hk, rfl⟩ : ∃ k, [true, false][j]? = some k ∧ v4 = .str (kN k) := by
              match j, hv4 with
              | 0, h => cases h; exact ⟨true, rfl, rfl⟩
              | 1, h => cases h; exact ⟨false, rfl, rfl⟩
            have hm := midS_one s t i j hu hk
            have ml := midS_len G t i j (by omega) (Nat.le_of_lt hui)
            show tSeq _ _ _ _ _
            refine ⟨_, rfl, _, rfl, pu, u, n, k, rfl, hpu4, Gu, fun H5 r s5 hr5 => ?_⟩
            have fd5 := fd4.same s5
            obtain ⟨kv5, dx5, pk5⟩ := id fd5
            refine ⟨_, rfl, _, rfl, r, d, kv5, iK (K49.next u k), rfl, rfl, dx5, hr5, _, rfl, ?_⟩
            rw [hm]
            rcases fd_val pk5 (K49.next u k) with ⟨hv5, hn5⟩ | ⟨v5, x5, hv5, hx5, _⟩
            · refine itT (by rw [hv5]; rfl) ?_
              have kl : kv5.length ≤ 71 := by rw [Paired.length pk5]; exact ml.1
              refine ⟨_, rfl, _, rfl, by show 2 ≤ _; omega, fun tp ntp => ⟨_, rfl, _, rfl, d, r, kv5, iK (K49.next u k), rfl, rfl, dx5.same (same_upd ntp), hr5.same (same_upd ntp), hv5, by omega, fun H7 hk7 dx7 => ?_⟩⟩
              have s6 : Same H5 (upd H5 tp (.tup [.str (kN k), .ref pu])) := same_upd ntp
              have etp : (upd H5 tp (.tup [.str (kN k), .ref pu])) tp = some (.tup [.str (kN k), .ref pu]) := upd_same
              have x6 : IsX (upd H5 tp (.tup [.str (kN k), .ref pu])) d := (dx5.same s6).isX
              generalize upd H5 tp (.tup [.str (kN k), .ref pu]) = H6 at s6 hk7 etp x6
              have k67 : Kd d H6 H7 := fun c o hc h => (hk7 c hc).trans h
              have lt6 := (lt4.same s5).same s6
              have dlt : d ≠ lt := LrAt.ne (dx5.same s6) lt6
              have lt7 : LrAt H7 lt (midS s t i j).2 := lt6.kd k67 x6 dlt.symm
              obtain ⟨qs, eq7, pq7⟩ := id lt7
              have x7 : IsX H7 lt := isX_lst eq7
              have ql : qs.length ≤ 71 := by rw [Paired.length pq7]; exact ml.2
              refine ⟨_, rfl, .inl ⟨rfl, _, SqL.of eq7⟩, _, rfl, lt, _, _, rfl, rfl, eq7, by rw [List.length_map]; omega, ?_⟩
              have k78 : Kd lt H7 (upd H7 lt (.lst (qs.map V.ref ++ [.ref r]))) := upd_kd _ _ _
              have hst : K49.stp (t + 1) (midS s t i j) (u, k) = ((midS s t i j).1 ++ [(K49.next u k, t + 1, some (k, u))], (midS s t i j).2 ++ [K49.next u k]) := by
                unfold K49.stp
                rw [if_neg hn5]
              rw [hst]
              have hr7 : PT H7 r (K49.next u k) := k67.pt x6 (hr5.same s6)
              have ly6 := (lr4.same s5).same s6
              have dly : d ≠ ly := LrAt.ne (dx5.same s6) ly6
              refine ⟨some (.str (kN k)), some (.ref r), rfl, fun c o hc => ?_, ⟨kv5 ++ [(iK (K49.next u k), V.ref tp)], DX.kd (P := P) (w := w) k78 x7 dlt dx7, Paired.snoc ?_ ⟨rfl, tp, pu, rfl, k78.tup x7 (k67.tup x6 etp), k78.pt x7 (k67.pt x6 ((hpu4.same s5).same s6))⟩⟩, ⟨qs ++ [r], by rw [upd_same, List.map_append]; rfl, Paired.snoc (pair_imp (fun _ _ z => k78.pt x7 z) pq7) (k78.pt x7 hr7)⟩, (ly6.kd k67 x6 dly.symm).kd k78 x7 lylt, k78 _ _ lylt (k67 _ _ dly.symm (s6 _ _ (s5 _ _ er4))), k78.pt x7 (k67.pt x6 ((hpu4.same s5).same s6))⟩
              · refine k78 _ _ (ne_of_none hc hlt0) (k67 _ _ (ne_of_none hc hd0) (s6 _ _ (s5 _ _ (s4 _ _ hc))))
              · exact pair_imp (fun _ _ z => ⟨z.1, k78.inf x7 (k67.inf x6 (inf_same s6 z.2))⟩) pk5
            · refine itF (by rw [hv5]; rfl) ?_
              have hin : K49.next u k ∈ K49.keys (midS s t i j).1 := by
                have := K49.inf_mem hx5
                exact List.mem_map.mpr ⟨_, this, rfl⟩
              have hst : K49.stp (t + 1) (midS s t i j) (u, k) = midS s t i j := by
                unfold K49.stp
                rw [if_pos hin]
              rw [hst]
              exact ⟨some (.str (kN k)), some (.ref r), rfl, s4.trans s5, fd5, lt4.same s5, lr4.same s5, s5 _ _ er4, hpu4.same s5⟩
          · obtain ⟨y6, y7, rfl, s4, fd4, lt4, lr4, er4, hpu4⟩ := hp
            have e2 : midS s t i 2 = midS s t (i + 1) 0 := midS_next s t i hu
            have fd4' : FdAt P w H4 d (midS s t i 2).1 := fd4
            have lt4' : LrAt H4 lt (midS s t i 2).2 := lt4
            rw [e2] at fd4' lt4'
            exact ⟨_, _, _, rfl, s4, fd4', lt4', lr4, er4⟩
        · obtain ⟨y5, y6, y7, rfl, s3, fd3, lt3, lr3, er3⟩ := hp
          have e2 : midS s t (rs.map V.ref).length 0 = K49.G s (t + 1) := by
            rw [List.length_map, hlen]
            exact midS_end s t
          rw [e2] at fd3 lt3
          obtain ⟨qs, eq3, pq3⟩ := id lt3
          refine ⟨_, rfl, lt, _, rfl, .inl (SqL.of eq3), fun nl nnl => ⟨nl, some (.ref lt), y5, y6, y7, rfl, s3.trans (same_upd nnl), fd3.same (same_upd nnl), ⟨qs, upd_same, pair_imp (fun _ _ z => PT.same (same_upd nnl) z) pq3⟩⟩⟩
      · refine itF (by rw [hv]; rfl) ⟨_, rfl, stop ?_ _ s0⟩
        unfold K49.stopB
        have hin : g ∈ K49.keys (K49.G s t).1 := List.mem_map.mpr ⟨_, K49.inf_mem hx, rfl⟩
        simp [hin]
end
end R49
set_option Elab.async false
set_option linter.all false
set_option maxRecDepth 100000
set_option maxHeartbeats 4000000
namespace R49
open PySem PySem.Spec PyProof.Rows L2
/-
0=one 1=other 2=found 3=here 4=kinds 5=kind
0=one 1=other 2=value 3=places 4=kind
-/
def kW (ks : List Bool) : List V := ks.map fun k => V.str (kN k)
theorem kW_at {ks : List Bool} {i : Nat} {v : V} (h : (kW ks)[i]? = some v) : ∃ k, ks[i]? = some k ∧ v = .str (kN k) := by
  unfold kW at h
  rw [List.getElem?_map] at h
  cases e : ks[i]? with
  | none => rw [e] at h; cases h
  | some x => rw [e] at h; exact ⟨x, rfl, (Option.some.inj h).symm⟩
theorem kW_len (ks : List Bool) : (kW ks).length = ks.length := List.length_map ..
theorem course_kW {H : Hp} {a : Addr} {ks : List Bool} (h : H a = some (.tup (kW ks))) (hl : ks.length ≤ 4000) : CourseV H (.ref a) true := by
  refine .inl ⟨a, kW ks, List.replicate ks.length true, rfl, h, by rw [kW_len]; exact hl, by rw [kW_len]; simp, fun i x hx => ?_, by simp⟩
  obtain ⟨k, hk, rfl⟩ := kW_at hx
  have hi := (List.getElem?_eq_some_iff.mp hk).1
  refine ⟨true, by rw [List.getElem?_replicate, if_pos hi], .inl ⟨kN k, rfl, ?_⟩⟩
  cases k <;> exact (decide_eq_true (by decide)).symm
section
variable {P : Program} {w : World} {K : PySem.W.Frag} {mg : Str → Option Value} {base : Heap}
theorem sc_require_two : FnScope ["one", "other"] ["one", "other"] (defScope dReqTwo.st) := ⟨rfl, rfl, rfl, by decide +kernel, rfl, by decide +kernel, by decide +kernel⟩
def spTwo (K : PySem.W.Frag) : Sp := fun vs H Q _ => ∃ a b u l u' l', vs = [.ref a, .ref b] ∧ OrdAt K H a u l ∧ OrdAt K H b u' l' ∧ Q .non H
theorem ok_require_two (T : Txt K mg) : Cal P w K mg base 4 dReqTwo ["one", "other"] (spTwo K) := by
  have C_require_whole := ok_require_whole (P := P) (w := w) (base := base) T
  have C_require_few := ok_require_few (P := P) (w := w) (base := base) T
  refine Cal.of T (List.mem_of_getElem? (i := 21) rfl) sc_require_two (fun _ _ _ _ _ _ us hl => match us, hl with | [_, _], _ => rfl) (fun vs H Q E h => ?_) (fun cdv A outer st0 H vs Q E hr h => ?_)
  · obtain ⟨a, b, u, l, u', l', rfl, _⟩ := h
    rfl
  · obtain ⟨a, b, u, l, u', l', rfl, O, O', q⟩ := h
    refine ⟨_, PSs.nox (pss_cons (ps_expr (pe_cal C_require_whole (hr.mono (by decide)) (T.g "require_whole") (pa_cons (pv 0) pa_nil)))
      (pss_cons (ps_expr (pe_cal C_require_whole (hr.mono (by decide)) (T.g "require_whole") (pa_cons (pv 1) pa_nil)))
      (pss_cons (ps_expr (pe_cal C_require_few (hr.mono (by decide)) (T.g "require_few") (pa_cons (pv 0) pa_nil)))
      (pss_one (ps_expr (pe_cal C_require_few (hr.mono (by decide)) (T.g "require_few") (pa_cons (pv 1) pa_nil))))))), ?_⟩
    exact ⟨_, rfl, a, u, l, rfl, O, _, rfl, b, u', l', rfl, O', _, rfl, a, u, l, rfl, O, _, rfl, b, u', l', rfl, O', q⟩
theorem sc_walk_between : FnScope ["one", "other", "found", "here", "kinds", "kind"] ["one", "other"] (defScope dBetween.st) := ⟨rfl, rfl, rfl, by decide +kernel, rfl, by decide +kernel, by decide +kernel⟩
def spBetween (K : PySem.W.Frag) : Sp := fun vs H Q _ => ∃ a b u l u' l', vs = [.ref a, .ref b] ∧ OrdAt K H a u l ∧ OrdAt K H b u' l' ∧
  (K49.walkB (K49.placesOf u l) (K49.placesOf u' l') = none → ∀ H', Same H H' → Q .non H') ∧ ∀ ks, K49.walkB (K49.placesOf u l) (K49.placesOf u' l') = some ks → ∀ H' r, Same H H' → H' r = some (.tup (kW ks)) → Q (.ref r) H'
theorem ok_walk_between (T : Txt K mg) : Cal P w K mg base 5 dBetween ["one", "other"] (spBetween K) := by
  have C_require_two := ok_require_two (P := P) (w := w) (base := base) T
  have C_walked := ok_walked (P := P) (w := w) (base := base) T
  have C_places := ok_places (P := P) (w := w) (base := base) T
  refine Cal.of T (List.mem_of_getElem? (i := 22) rfl) sc_walk_between (fun _ _ _ _ _ _ us hl => match us, hl with | [_, _], _ => rfl) (fun vs H Q E h => ?_) (fun cdv A outer st0 H vs Q E hr h => ?_)
  · obtain ⟨a, b, u, l, u', l', rfl, _⟩ := h
    rfl
  · obtain ⟨a, b, u, l, u', l', rfl, O, O', q0, q1⟩ := h
    refine ⟨_, PSs.nox (pss_cons (ps_expr (pe_cal C_require_two (hr.mono (by decide)) (T.g "require_two") (pa_cons (pv 0) (pa_cons (pv 1) pa_nil))))
      (pss_cons (ps_par (i := 2) (j := 3) (by rfl) sc_walk_between.nd rfl rfl (by decide) rfl rfl (pa_cons (pe_cal C_walked (hr.mono (by decide)) (T.g "walked") (pa_cons (SlX.pe_propSl (CX := CX0) (E := E0) (pv 0) T.cls (T.pat "places" (by decide)).1 (T.pat "places" (by decide)).2.1 (T.pat "places" (by decide)).2.2.1 (T.pat "places" (by decide)).2.2.2 C_places.r (hr.mono (by decide)) (fun _ _ _ _ z => z.elim)) (pa_cons (SlX.pe_propSl (CX := CX0) (E := E0) (pv 1) T.cls (T.pat "places" (by decide)).1 (T.pat "places" (by decide)).2.1 (T.pat "places" (by decide)).2.2.1 (T.pat "places" (by decide)).2.2.2 C_places.r (hr.mono (by decide)) (fun _ _ _ _ z => z.elim)) pa_nil))) (pa_cons (SlX.pe_propSl (CX := CX0) (E := E0) (pv 1) T.cls (T.pat "places" (by decide)).1 (T.pat "places" (by decide)).2.1 (T.pat "places" (by decide)).2.2.1 (T.pat "places" (by decide)).2.2.2 C_places.r (hr.mono (by decide)) (fun _ _ _ _ z => z.elim)) pa_nil)) (by rfl))
      (pss_cons (ps_if (pt_cmpR (op_xnotin (hu_of hr)) (pv 3) (pv 2) (by rfl))
      (pss_one (ps_ret pe_non))
      pss_nil)
      (pss_cons (ps_set (i := 4) sc_walk_between.nd rfl (Or.inl rfl) (pe_lst pa_nil))
      (pss_cons (ps_while PassesOwn.never (pt_cmpR op_notN (pe_xget (hu_of hr) (pv 2) (pv 3) (fun _ _ => rfl)) pe_non (nomark _))
      (pss_cons (ps_asg (pe_xget (hu_of hr) (pv 2) (pv 3) (fun _ _ => rfl)) (pg_tup rfl (pgs_cons (pg_name (i := 5) sc_walk_between.nd rfl (Or.inl rfl)) (pgs_cons (pg_name (i := 3) sc_walk_between.nd rfl (Or.inl rfl)) pgs_nil))))
      (pss_one (ps_expr (pe_bm PySem.F.plainAttrs_list PySem.F.slot_list_append PySem.F.type_list_append mt_append (pv 4) (pa_cons (pv 5) pa_nil))))))
      (pss_one (ps_ret (pe_callTy call_tuple_of (by rfl) (T.f "tuple") (by decide +kernel) (pa_cons (pe_revL (pv 4)) pa_nil))))))))), ?_⟩
    have big := size_big
    obtain ⟨R, dx, vs, up, lo, pl, ua, S, _⟩ := id O
    obtain ⟨R', dx', vs', up', lo', pl', ua', S', _⟩ := id O'
    have G := R.good
    generalize hs : K49.placesOf u l = s at G q0 q1
    generalize hg : K49.placesOf u' l' = g at q0 q1
    refine ⟨_, rfl, _, rfl, a, b, u, l, u', l', rfl, O, O', ?_⟩
    refine ⟨.ref a, rfl, a, dx, vs, rfl, S, a, u, l, rfl, O, fun r1 p1 => ⟨.ref b, rfl, b, dx', vs', rfl, S', b, u', l', rfl, O', fun r2 p2 => ⟨r1, r2, s, g, _, rfl, hs ▸ p1, hg ▸ p2, G, fun H1 d s1 fd => ?_⟩⟩⟩
    refine ⟨.ref b, rfl, b, dx', vs', rfl, same_slt s1 S', b, u', l', rfl, same_ord s1 O', fun r3 p3 => ⟨_, _, rfl, ?_⟩⟩
    rw [hg] at p3
    obtain ⟨kvs, dxx, pk⟩ := id fd
    refine ⟨_, rfl, _, rfl, r3, d, kvs, iK g, rfl, rfl, dxx, p3, _, rfl, ?_⟩
    rcases fd_val pk g with ⟨hv, hgn⟩ | ⟨v, x, hv, hx, hi⟩
    · refine itT (by rw [hv]; rfl) (q0 ?_ _ s1)
      unfold K49.walkB
      rw [K49.inf_none hgn]
    · obtain ⟨nn, info⟩ := x
      have hw : K49.walkB s g = some (K49.chain (K49.FP s g) nn g) := by
        unfold K49.walkB
        rw [hx]
      have hmem := K49.inf_mem hx
      have q2 := q1 _ hw
      have hlen : nn ≤ 71 := by
        have := (K49.walk_some G hw).2.2
        have c := (K49.chain_ok s (K49.T s g) nn g info hmem).1
        have : (K49.chain (K49.FP s g) nn g).length = nn := c
        omega
      have nd := (K49.gOk s (K49.T s g)).nd
      refine itF (by rw [hv]; rfl) ?_
      refine ⟨Nat.zero_le _, fun lk nlk => ?_⟩
      refine ⟨fun m σ Hc => ∃ rh bb info ks y5, σ = [some (.ref a), some (.ref b), some (.ref d), some (.ref rh), some (.ref lk), y5] ∧ Same H Hc ∧ FdAt P w Hc d (K49.FP s g) ∧ PT Hc rh bb ∧ (bb, m, info) ∈ K49.FP s g ∧ Hc lk = some (.lst (kW ks)) ∧ K49.chain (K49.FP s g) m bb ++ ks.reverse = K49.chain (K49.FP s g) nn g ∧ ks.length + m ≤ 71,
        ⟨nn, r3, g, info, [], none, rfl, s1.trans (same_upd nlk), fd.same (same_upd nlk), p3.same (same_upd nlk), hmem, upd_same, by simp, by simpa using hlen⟩, fun m σ Hc hW => ?_⟩
      obtain ⟨rh, bb, inf1, ks, y5, rfl, sc, fdc, prh, hbb, elk, hch, hkl⟩ := hW
      obtain ⟨kvc, dxc, pkc⟩ := id fdc
      have hinf : K49.inf (K49.FP s g) bb = some (m, inf1) := K49.inf_of nd hbb
      rcases fd_val pkc bb with ⟨_, hn⟩ | ⟨v2, x2, hv2, hx2, hi2⟩
      · exact absurd (List.mem_map.mpr ⟨_, hbb, rfl⟩) hn
      rw [hinf] at hx2
      cases hx2
      refine ⟨_, rfl, _, rfl, d, rh, kvc, iK bb, v2, rfl, rfl, dxc, prh, hv2, rfl, _, rfl, ?_⟩
      have src := (K49.gOk s (K49.T s g)).src _ hbb
      cases inf1 with
      | none =>
        have ev : v2 = .non := hi2
        have em : m = 0 := by
          rcases src with e | ⟨_, _, _, _, e, _⟩
          · injection e with _ e; injection e
          · injection e with _ e; injection e with _ e; cases e
        refine itF (by rw [ev]; rfl) ?_
        subst em
        have hk : ks.reverse = K49.chain (K49.FP s g) nn g := by
          rw [← hch]
          rfl
        refine ⟨_, rfl, lk, _, rfl, SqL.of elk, fun lr nlr => ⟨lr, _, rfl, .inl ⟨SqL.of upd_same, fun t nt => q2 _ t ((sc.trans (same_upd nlr)).trans (same_upd nt)) ?_⟩⟩⟩
        rw [upd_same, ← hk]
        unfold kW
        rw [List.map_reverse]
      | some ku =>
        obtain ⟨k, u2⟩ := ku
        obtain ⟨rt, rs, ev, et, es⟩ := hi2
        subst ev
        obtain ⟨d2, i2, em, hu2⟩ : ∃ d2 i2, m = d2 + 1 ∧ (u2, d2, i2) ∈ K49.FP s g := by
          rcases src with e | ⟨u3, k3, d3, i3, e, hm⟩
          · injection e with _ e; injection e with _ e; cases e
          · injection e with _ e
            injection e with e1 e2
            injection e2 with e2
            injection e2 with e3 e4
            subst e4
            exact ⟨d3, i3, e1, hm⟩
        subst em
        refine itT rfl ⟨fun σ' H' => ∃ rh bb info ks y5, σ' = [some (.ref a), some (.ref b), some (.ref d), some (.ref rh), some (.ref lk), y5] ∧ Same H H' ∧ FdAt P w H' d (K49.FP s g) ∧ PT H' rh bb ∧ (bb, d2, info) ∈ K49.FP s g ∧ H' lk = some (.lst (kW ks)) ∧ K49.chain (K49.FP s g) d2 bb ++ ks.reverse = K49.chain (K49.FP s g) nn g ∧ ks.length + d2 ≤ 71, fun σ' H' hN => ⟨d2, Nat.lt_succ_self _, hN⟩, ?_⟩
        refine ⟨_, rfl, _, rfl, d, rh, kvc, iK bb, _, rfl, rfl, dxc, prh, hv2, rt, _, rfl, SqT.of et, rfl, _, _, rfl, _, _, rfl, rfl, ?_⟩
        refine ⟨_, rfl, .inl ⟨rfl, _, SqL.of elk⟩, _, rfl, lk, _, _, rfl, rfl, elk, by rw [kW_len]; omega, ?_⟩
        have hlk0 : H lk = none := s1.free nlk
        have k1 : Kd lk Hc (upd Hc lk (.lst (kW ks ++ [.str (kN k)]))) := upd_kd _ _ _
        have xl : IsX Hc lk := isX_lst elk
        have dlk : d ≠ lk := by
          obtain ⟨_, _, o, _, _, _, e, _⟩ := dxc
          intro z
          rw [z, elk] at e
          cases e
        refine ⟨rs, u2, i2, ks ++ [k], some (.str (kN k)), rfl, fun c o hc => k1 _ _ (ne_of_none hc hlk0) (sc _ _ hc), ⟨kvc, dxc.kd k1 xl dlk, pair_imp (fun _ _ z => ⟨z.1, k1.inf xl z.2⟩) pkc⟩, k1.pt xl es, hu2, by rw [upd_same]; simp [kW], ?_, by rw [List.length_append]; simp; omega⟩
        rw [← hch]
        have e1 : K49.chain (K49.FP s g) (d2 + 1) bb = K49.chain (K49.FP s g) d2 u2 ++ [k] := by
          show (match K49.inf (K49.FP s g) bb with | some (_, some (k, u)) => K49.chain (K49.FP s g) d2 u ++ [k] | _ => []) = _
          rw [hinf]
        rw [e1]
        simp
theorem sc_are_joined : FnScope ["one", "other"] ["one", "other"] (defScope dJoined.st) := ⟨rfl, rfl, rfl, by decide +kernel, rfl, by decide +kernel, by decide +kernel⟩
def spJoined (K : PySem.W.Frag) : Sp := fun vs H Q _ => ∃ a b u l u' l', vs = [.ref a, .ref b] ∧ OrdAt K H a u l ∧ OrdAt K H b u' l' ∧ ∀ H', Same H H' → Q (.bl (K49.walkB (K49.placesOf u l) (K49.placesOf u' l')).isSome) H'
theorem ok_are_joined (T : Txt K mg) : Cal P w K mg base 6 dJoined ["one", "other"] (spJoined K) := by
  have C_walk_between := ok_walk_between (P := P) (w := w) (base := base) T
  refine Cal.of T (List.mem_of_getElem? (i := 23) rfl) sc_are_joined (fun _ _ _ _ _ _ us hl => match us, hl with | [_, _], _ => rfl) (fun vs H Q E h => ?_) (fun cdv A outer st0 H vs Q E hr h => ?_)
  · obtain ⟨a, b, u, l, u', l', rfl, _⟩ := h
    rfl
  · obtain ⟨a, b, u, l, u', l', rfl, O, O', q⟩ := h
    refine ⟨_, PSs.nox (pss_one (ps_ret (pe_cmpR op_notN (pe_cal C_walk_between (hr.mono (by decide)) (T.g "walk_between") (pa_cons (pv 0) (pa_cons (pv 1) pa_nil))) pe_non (nomark _)))), ?_⟩
    refine ⟨_, rfl, _, rfl, a, b, u, l, u', l', rfl, O, O', fun e H' sm => ⟨rfl, ?_⟩, fun ks e H' r sm _ => ⟨rfl, ?_⟩⟩
    · have := q H' sm
      rw [e] at this
      exact this
    · have := q H' sm
      rw [e] at this
      exact this
theorem sc_is_walk : FnScope ["one", "other", "value", "places", "kind"] ["one", "other", "value"] (defScope dIsWalk.st) := ⟨rfl, rfl, rfl, by decide +kernel, rfl, by decide +kernel, by decide +kernel⟩
def spIsWalk (K : PySem.W.Frag) : Sp := fun vs H Q _ => ∃ a b v u l u' l', vs = [.ref a, .ref b, v] ∧ OrdAt K H a u l ∧ OrdAt K H b u' l' ∧
  ((∃ x ks, v = .ref x ∧ H x = some (.tup (kW ks)) ∧ ks.length ≤ 4000 ∧ ∀ H', Same H H' → Q (.bl (decide (K49.run (K49.placesOf u l) ks = K49.placesOf u' l'))) H') ∨ (CourseV H v false ∧ ∀ H', Same H H' → Q (.bl false) H'))
theorem ok_is_walk (T : Txt K mg) : Cal P w K mg base 3 dIsWalk ["one", "other", "value"] (spIsWalk K) := by
  have C_require_whole := ok_require_whole (P := P) (w := w) (base := base) T
  have C_is_course := ok_is_course (P := P) (w := w) (base := base) T
  have C_places := ok_places (P := P) (w := w) (base := base) T
  have C_next_places := ok_next_places (P := P) (w := w) (base := base) T
  refine Cal.of T (List.mem_of_getElem? (i := 24) rfl) sc_is_walk (fun _ _ _ _ _ _ us hl => match us, hl with | [_, _, _], _ => rfl) (fun vs H Q E h => ?_) (fun cdv A outer st0 H vs Q E hr h => ?_)
  · obtain ⟨a, b, v, u, l, u', l', rfl, _⟩ := h
    rfl
  · obtain ⟨a, b, v, u, l, u', l', rfl, O, O', h⟩ := h
    refine ⟨_, PSs.nox (pss_cons (ps_expr (pe_cal C_require_whole (hr.mono (by decide)) (T.g "require_whole") (pa_cons (pv 0) pa_nil)))
      (pss_cons (ps_expr (pe_cal C_require_whole (hr.mono (by decide)) (T.g "require_whole") (pa_cons (pv 1) pa_nil)))
      (pss_cons (ps_if (pt_not (pt_val (pe_cal C_is_course (hr.mono (by decide)) (T.g "is_course") (pa_cons (pv 2) pa_nil))))
      (pss_one (ps_ret pe_bl))
      pss_nil)
      (pss_cons (ps_set (i := 3) sc_is_walk.nd rfl (Or.inl rfl) (SlX.pe_propSl (CX := CX0) (E := E0) (pv 0) T.cls (T.pat "places" (by decide)).1 (T.pat "places" (by decide)).2.1 (T.pat "places" (by decide)).2.2.1 (T.pat "places" (by decide)).2.2.2 C_places.r (hr.mono (by decide)) (fun _ _ _ _ z => z.elim)))
      (pss_cons (ps_for PassesOwn.never rfl (pi_tup (pv 2)) (pg_name (i := 4) sc_is_walk.nd rfl (Or.inl rfl))
      (pss_one (ps_set (i := 3) sc_is_walk.nd rfl (Or.inl rfl) (pe_cal C_next_places (hr.mono (by decide)) (T.g "next_places") (pa_cons (pv 3) (pa_cons (pv 4) pa_nil))))))
      (pss_one (ps_ret (pe_cmpR (op_eqD hr.units) (pv 3) (SlX.pe_propSl (CX := CX0) (E := E0) (pv 1) T.cls (T.pat "places" (by decide)).1 (T.pat "places" (by decide)).2.1 (T.pat "places" (by decide)).2.2.1 (T.pat "places" (by decide)).2.2.2 C_places.r (hr.mono (by decide)) (fun _ _ _ _ z => z.elim)) (nomark _))))))))), ?_⟩
    obtain ⟨R, dx, vs, up, lo, pl, ua, S, _⟩ := id O
    refine ⟨_, rfl, a, u, l, rfl, O, _, rfl, b, u', l', rfl, O', ?_⟩
    rcases h with ⟨x, ks, rfl, ex, hl, q⟩ | ⟨hc, q⟩
    · refine ⟨_, rfl, _, true, rfl, course_kW ex hl, fun H1 s1 => ⟨true, rfl, itF rfl ?_⟩⟩
      refine ⟨_, rfl, a, dx, vs, rfl, same_slt s1 S, a, u, l, rfl, same_ord s1 O, fun r p => ?_⟩
      have ex1 := s1 _ _ ex
      refine ⟨_, rfl, x, rfl, ⟨_, SqT.of ex1⟩, for_tup (xs := kW ks) (fun i σ H3 => ∃ r y4, σ = [some (.ref a), some (.ref b), some (.ref x), some (.ref r), y4] ∧ Same H1 H3 ∧ PT H3 r (K49.run (K49.placesOf u l) (ks.take i)))
        ⟨r, none, rfl, Same.refl _, p⟩ (fun i σ H3 _ ⟨_, _, _, sm, _⟩ => SqT.of (sm _ _ ex1)) (fun i v σ H3 hv hp => ?_) (fun σ H3 hp => ?_)⟩
      · obtain ⟨r, y4, rfl, sm, pr⟩ := hp
        obtain ⟨k, hk, rfl⟩ := kW_at hv
        refine ⟨_, rfl, _, rfl, r, _, _, k, rfl, pr, R.good.run _, fun H4 r4 s4 p4 => ⟨r4, _, rfl, sm.trans s4, ?_⟩⟩
        have e : ks.take (i + 1) = ks.take i ++ [k] := by rw [List.take_add_one, hk]; rfl
        rw [e, K49.run_append]
        exact p4
      · obtain ⟨r, y4, rfl, sm, pr⟩ := hp
        rw [List.take_of_length_le (by rw [kW_len]; exact Nat.le_refl _)] at pr
        obtain ⟨R', dx', vs', up', lo', pl', ua', S', _⟩ := same_ord (s1.trans sm) O'
        refine ⟨_, rfl, _, rfl, b, dx', vs', rfl, S', b, u', l', rfl, same_ord (s1.trans sm) O', fun r2 p2 => ⟨_, _, .tup pr.sq (dpI _), .tup p2.sq (dpI _), shTI _, shTI _, ?_⟩⟩
        show Q (.bl (PyData.eqvAll (dI _) (dI _))) H3
        rw [eqI]
        exact q _ (s1.trans sm)
    · exact ⟨_, rfl, _, false, rfl, hc, fun H1 s1 => ⟨false, rfl, itT rfl (q _ s1)⟩⟩
end
end R49
set_option Elab.async false
set_option linter.all false
set_option maxRecDepth 100000
set_option maxHeartbeats 4000000
namespace R49
open PySem PySem.Spec PyProof.Rows L2
/-
0=upper 1=lower 2=places 3=greatest 4=at 5=name
0=row 1=name 2=other 3=left 4=at 5=one
0=upper 1=lower 2=kind 3=above 4=below 5=name
0=value 1=kind
-/
/-! ### rows and rounds -/
def ledR (u l : List Str) (k : Bool) : List Str × List Str := K49.led u l k (u.getLastD "") (l.getLastD "")
theorem last_of {u : List Str} (h : 1 ≤ u.length) : u.getLast? = some (u.getLastD "") := by
  rw [List.getLastD_eq_getLast?]
  cases e : u.getLast? with
  | none =>
    have := List.getLast?_eq_none_iff.mp e
    subst this
    simp at h
  | some x => rfl
theorem rows_led {u l : List Str} (R : Rows u l) (k : Bool) : Rows (ledR u l k).1 (ledR u l k).2 ∧ K49.placesOf (ledR u l k).1 (ledR u l k).2 = K49.next (K49.placesOf u l) k ∧ (ledR u l k).1.Perm u := by
  obtain ⟨h1, h2, h3⟩ := K49.led_ok R.ok R.good k (last_of R.row.1) (last_of R.rowL.1)
  refine ⟨⟨h1, ?_, ?_⟩, h2, h3⟩
  · obtain ⟨a, b, c, d⟩ := R.row
    have hl := h3.length_eq
    exact ⟨by rw [show (ledR u l k).1.length = u.length from hl]; exact a, by rw [show (ledR u l k).1.length = u.length from hl]; exact b, h1.nd, fun x hx => d x (h3.mem_iff.mp hx)⟩
  · have hl := h3.length_eq
    rw [show (ledR u l k).1.length = u.length from hl, show K49.placesOf (ledR u l k).1 (ledR u l k).2 = _ from h2]
    exact R.good.next k
def fLast (p : K49.Pl) : Bool := decide (p.getLastD 0 ≠ p.length - 1)
theorem fLast2 : (K49.cls 2).all fLast = true := by decide +kernel
theorem fLast3 : (K49.cls 3).all fLast = true := by decide +kernel
theorem fLast4 : (K49.cls 4).all fLast = true := by decide +kernel
theorem fLast5 : (K49.cls 5).all fLast = true := by decide +kernel
theorem rows_last {u l : List Str} (R : Rows u l) : u.getLastD "" ≠ l.getLastD "" := by
  intro e
  have h := of_decide_eq_true (K49.chk_all fLast2 fLast3 fLast4 fLast5 R.good)
  apply h
  have hu := last_of R.row.1
  have hl := last_of R.rowL.1
  have e1 : (K49.placesOf u l).getLast? = some (l.idxOf (u.getLastD "")) := by
    unfold K49.placesOf
    rw [List.getLast?_map, hu]
    rfl
  rw [List.getLastD_eq_getLast?, e1, K49.places_len, e]
  show l.idxOf (l.getLastD "") = u.length - 1
  obtain ⟨ys, hy⟩ := List.getLast?_eq_some_iff.mp hl
  have hlen := R.ok.len
  have hi : l.length - 1 < l.length := by have := R.rowL.1; omega
  have eg : l[l.length - 1] = l.getLastD "" := by
    have : l[l.length - 1]? = some (l.getLastD "") := by rw [← List.getLast?_eq_getElem?]; exact hl
    exact (List.getElem?_eq_some_iff.mp this).2
  rw [← eg, R.ok.ndl.idxOf_getElem _ hi, hlen]
theorem idx_le {α : Type} [BEq α] [LawfulBEq α] : ∀ {l : List α} {m : Nat} {x : α}, l[m]? = some x → l.idxOf x ≤ m
  | [], _, _, h => by simp at h
  | a :: l, 0, x, h => by
    have : a = x := by simpa using h
    subst this
    simp
  | a :: l, m + 1, x, h => by
    have ih := idx_le (l := l) (m := m) (x := x) (by simpa using h)
    rw [List.idxOf_cons]
    cases e : (a == x) with
    | true => simp
    | false => simp; omega
section
variable {P : Program} {w : World} {K : PySem.W.Frag} {mg : Str → Option Value} {base : Heap}
theorem sc_are_whole_rows : FnScope ["upper", "lower", "places", "greatest", "at", "name"] ["upper", "lower"] (defScope dWholeRows.st) := ⟨rfl, rfl, rfl, by decide +kernel, rfl, by decide +kernel, by decide +kernel⟩
def spWholeRows : Sp := fun vs H Q _ => ∃ a b u l, vs = [.ref a, .ref b] ∧ H a = some (.tup (sV u)) ∧ H b = some (.tup (sV l)) ∧ Rows u l ∧ ∀ H', Same H H' → Q (.bl true) H'
theorem ok_are_whole_rows (T : Txt K mg) : Cal P w K mg base 1 dWholeRows ["upper", "lower"] spWholeRows := by
  refine Cal.of T (List.mem_of_getElem? (i := 25) rfl) sc_are_whole_rows (fun _ _ _ _ _ _ us hl => match us, hl with | [_, _], _ => rfl) (fun vs H Q E h => ?_) (fun cdv A outer st0 H vs Q E hr h => ?_)
  · obtain ⟨a, b, u, l, rfl, _⟩ := h
    rfl
  · obtain ⟨a, b, u, l, rfl, ea, eb, R, q⟩ := h
    refine ⟨_, PSs.nox (pss_cons (ps_par (i := 2) (j := 3) (by rfl) sc_are_whole_rows.nd rfl rfl (by decide) rfl rfl (pa_cons (pe_dc (own := [("at", 4), ("name", 5)]) (g := (gTup K 2 (gCons (gName 4) (gCons (gName 5) gNil)))) (tt := tYes) rfl sc_are_whole_rows.nd (pi_enumT (by rfl) (T.f "enumerate") (pa_cons (pv 1) pa_nil)) (blkOk_by (N := ["upper", "lower", "places", "greatest", "at", "name"]) (sc := defScope dWholeRows.st) (by decide +kernel)) (fun _ _ _ _ _ => (pg_tup rfl (pgs_cons (pg_name (i := 4) sc_are_whole_rows.nd rfl (Or.inl rfl)) (pgs_cons (pg_name (i := 5) sc_are_whole_rows.nd rfl (Or.inl rfl)) pgs_nil)))) (fun _ _ _ _ _ => pts_nil) (fun _ _ _ _ _ => (pv 5)) (fun _ _ _ _ _ => (pv 4))) (pa_cons (pe_un un_neg pe_int) pa_nil)) (by rfl))
      (pss_cons (ps_for PassesOwn.never rfl (pi_enumT (by rfl) (T.f "enumerate") (pa_cons (pe_slice sl_tupA (pv 0) po_none (po_some (pe_un un_neg pe_int))) pa_nil)) (pg_tup rfl (pgs_cons (pg_name (i := 4) sc_are_whole_rows.nd rfl (Or.inl rfl)) (pgs_cons (pg_name (i := 5) sc_are_whole_rows.nd rfl (Or.inl rfl)) pgs_nil)))
      (pss_cons (ps_set (i := 3) sc_are_whole_rows.nd rfl (Or.inl rfl) (pe_callB (call_max2 rfl) (by rfl) (T.f "max") (by decide +kernel) (pa_cons (pv 3) (pa_cons (pe_dget (hu_of hr) (pv 2) (pv 5) (fun _ _ => rfl)) pa_nil))))
      (pss_one (ps_if (pt_cmpR op_eq (pv 3) (pv 4) (nomark _))
      (pss_one (ps_ret pe_bl))
      pss_nil))))
      (pss_one (ps_ret (pe_cmpR op_gt (pe_callB call_len_seq (by rfl) (T.f "len") PySem.boot_len (pa_cons (pv 0) pa_nil)) pe_int (nomark _)))))), ?_⟩
    have big := size_big
    obtain ⟨h1, h10, nd, hn⟩ := R.row
    obtain ⟨g1, g10, ndl, hnl⟩ := R.rowL
    have two := R.good.two
    have LO := R.good.loop
    have hul := sV_len u
    refine ⟨.ref b, rfl, b, sV l, rfl, SqT.of eb, fun D nD => dc_it walk_T (DcP H D fun i => kvO (fun i => .int (i : Nat)) (l.take i)) (DcP.start nD rfl) (fun _ _ _ p => SqT.of (p.1 _ _ eb)) (fun i v H3 H4 hi p y => ?_) (fun H1 p1 => ?_)⟩
    · obtain ⟨Tu, xs, rfl, nT, rfl, z, hz, rfl⟩ := y
      obtain ⟨y, hy, rfl⟩ := sV_at hz
      exact ⟨Tu, _, rfl, SqT.of upd_same, rfl, _, _, rfl, _, _, rfl, rfl, rfl, _, rfl, _, rfl, p.step nD (same_upd nT) rfl (kvO_succ _ ndl hy) (by rw [kvO_len, List.length_take]; omega)⟩
    have s1 : Same H H1 := p1.1
    have e1 : H1 D = some (.dK (kvO (fun i => .int (i : Nat)) (l.take (sV l).length))) := p1.2
    rw [List.take_of_length_le (by rw [sV_len]; exact Nat.le_refl _)] at e1
    refine ⟨1, rfl, _, _, rfl, ?_⟩
    refine ⟨.ref a, rfl, 1, rfl, _, rfl, slA (s1 _ _ ea) fun H2 r s2 e2 => ?_⟩
    rw [cut_init] at e2
    have hdl : ((sV u).dropLast).length = u.length - 1 := by rw [List.length_dropLast, hul]
    refine ⟨r, _, rfl, SqT.of e2, for_it walk_T (fun i σ H3 => ∃ y4 y5, σ = [some (.ref a), some (.ref b), some (.ref D), some (.int (K49.gr (K49.placesOf u l) i)), y4, y5] ∧ Same H2 H3) ⟨none, none, by rw [K49.gr_zero]; rfl, Same.refl _⟩ (fun i σ H3 _ ⟨_, _, _, sm⟩ => SqT.of (sm _ _ e2)) (fun i v σ H3 H4 hi hp y => ?_) (fun σ H3 hp => ?_)⟩
    · obtain ⟨y4, y5, rfl, sm⟩ := hp
      obtain ⟨Tu, xs, rfl, nT, rfl, z, hz, rfl⟩ := y
      rw [hdl] at hi
      have hz2 : (sV u)[i]? = some z := by
        rw [List.getElem?_dropLast] at hz
        split at hz
        · exact hz
        · cases hz
      obtain ⟨x, hx, rfl⟩ := sV_at hz2
      have hxl : x ∈ l := R.ok.mem.mpr (List.mem_of_getElem? hx)
      have smT : Same H3 (upd H3 Tu (.tup [.int (i : Nat), .str x])) := same_upd nT
      have eD := smT _ _ (sm _ _ (s2 _ _ e1))
      have hp : (K49.placesOf u l)[i]? = some (l.idxOf x) := by
        unfold K49.placesOf
        rw [List.getElem?_map, hx]
        rfl
      have hg := K49.gr_succ hp
      refine ⟨Tu, _, rfl, SqT.of upd_same, rfl, _, _, rfl, _, _, rfl, rfl, _, rfl, .ref D, rfl, _, rfl, D, _, rfl, dget_str eD (kvO_at _ ndl hxl), _, _, rfl, ?_⟩
      rw [← hg]
      have hne := LO.gr1 i (by rw [K49.places_len]; exact hi)
      refine ⟨_, rfl, _, rfl, rfl, _, rfl, itF (decide_eq_false fun z => hne (V.int.inj z)) ⟨_, _, rfl, sm.trans smT⟩⟩
    · obtain ⟨y4, y5, rfl, sm⟩ := hp
      refine ⟨.ref a, rfl, a, sV u, rfl, .inr (SqT.of (sm _ _ (s2 _ _ (s1 _ _ ea)))), _, _, rfl, rfl, ?_⟩
      have e : decide (((sV u).length : Int) > 1) = true := decide_eq_true (by omega)
      show Q (.bl (decide (((sV u).length : Int) > 1))) H3
      rw [e]
      exact q _ ((s1.trans s2).trans sm)
theorem sc_put_behind : FnScope ["row", "name", "other", "left", "at", "one"] ["row", "name", "other"] (defScope dPut.st) := ⟨rfl, rfl, rfl, by decide +kernel, rfl, by decide +kernel, by decide +kernel⟩
def spPut : Sp := fun vs H Q _ => ∃ a row name other, vs = [.ref a, .str name, .str other] ∧ H a = some (.tup (sV row)) ∧ row.length ≤ 10 ∧ other ∈ row ∧ other ≠ name ∧ ∀ H' r, Same H H' → H' r = some (.tup (sV (K49.pb row name other))) → Q (.ref r) H'
theorem ok_put_behind (T : Txt K mg) : Cal P w K mg base 1 dPut ["row", "name", "other"] spPut := by
  refine Cal.of T (List.mem_of_getElem? (i := 26) rfl) sc_put_behind (fun _ _ _ _ _ _ us hl => match us, hl with | [_, _, _], _ => rfl) (fun vs H Q E h => ?_) (fun cdv A outer st0 H vs Q E hr h => ?_)
  · obtain ⟨a, row, name, other, rfl, _⟩ := h
    rfl
  · obtain ⟨a, row, name, other, rfl, ea, h10, ho, hne, q⟩ := h
    refine ⟨_, PSs.nox (pss_cons (ps_setLc (i := 3) (own := [("one", 5)]) (g := (gName 5)) (tt := _) rfl sc_put_behind.nd rfl rfl (sw_true rfl rfl rfl (by decide +kernel)) (pi_tup (pv 0)) (blkOk_by (N := ["row", "name", "other", "left", "at", "one"]) (sc := defScope dPut.st) (by decide +kernel)) (fun _ _ _ _ _ => (pg_name (i := 5) sc_put_behind.nd rfl (Or.inl rfl))) (fun _ _ _ _ _ => (pts_one (pt_cmpR op_ne (pv 5) (pv 1) (nomark _)))) (fun _ _ _ _ _ => (pv 5)))
      (pss_cons (ps_set (i := 4) sc_put_behind.nd rfl (Or.inl rfl) (pe_op op_add (pe_bm PySem.F.plainAttrs_list PySem.F.slot_list_index PySem.F.type_list_index mt_index (pv 3) (pa_cons (pv 2) pa_nil)) pe_int))
      (pss_one (ps_ret (pe_tup (StX.pa_star (pe_slice sl_list (pv 3) po_none (po_some (pv 4))) (pa_cons (pv 1) (StX.pa_star (pe_slice sl_list (pv 3) (po_some (pv 4)) po_none) pa_nil)))))))), ?_⟩
    have big := size_big
    refine ⟨.ref a, rfl, a, rfl, ⟨_, SqT.of ea⟩, fun D nD => lc_it walk_tup (LcP H D fun i => sV ((row.take i).filter fun x => decide (x ≠ name))) (LcP.start nD rfl) (fun _ _ _ p => SqT.of (p.1 _ _ ea)) (fun i v H3 H4 hi p y => ?_) (fun H1 p1 => ?_)⟩
    · obtain ⟨rfl, hv⟩ := y
      obtain ⟨x, hx, rfl⟩ := sV_at hv
      have et : row.take (i + 1) = row.take i ++ [x] := by rw [List.take_add_one, hx]; rfl
      refine ⟨rfl, _, rfl, _, rfl, rfl, _, rfl, itE (fun e => ?_) (fun e => ?_)⟩
      · have hx2 : x ≠ name := fun z => by rw [z] at e; simp at e
        refine ⟨_, rfl, p.step nD (Same.refl _) ?_ ?_⟩
        · show sV ((row.take (i + 1)).filter _) = _
          rw [et, List.filter_append]
          simp [sV, hx2]
        · rw [sV_len]
          have := List.length_filter_le (fun x => decide (x ≠ name)) (row.take i)
          rw [List.length_take] at this
          omega
      · have hx2 : x = name := by
          by_cases z : x = name
          · exact z
          · exfalso
            have : (!decide (V.str x = V.str name)) = true := by simp [z]
            rw [this] at e
            cases e
        refine p.skip (Same.refl _) ?_
        show sV ((row.take (i + 1)).filter _) = _
        rw [et, List.filter_append]
        simp [hx2]
    have s1 : Same H H1 := p1.1
    have e1 : H1 D = some (.lst (sV ((row.take (sV row).length).filter fun x => decide (x ≠ name)))) := p1.2
    rw [List.take_of_length_le (by rw [sV_len]; exact Nat.le_refl _)] at e1
    generalize hleft : (row.filter fun x => decide (x ≠ name)) = left at e1
    have hlen : left.length ≤ 10 := by
      have := List.length_filter_le (fun x => decide (x ≠ name)) row
      rw [hleft] at this
      omega
    have hol : other ∈ left := by rw [← hleft]; exact List.mem_filter.mpr ⟨ho, by simpa using hne⟩
    have hj : left.idxOf other < left.length := List.idxOf_lt_length_of_mem hol
    have hpb : K49.pb row name other = left.take (left.idxOf other + 1) ++ [name] ++ left.drop (left.idxOf other + 1) := by
      unfold K49.pb
      rw [hleft]
    refine ⟨_, rfl, .inl ⟨rfl, _, SqL.of e1⟩, _, rfl, D, _, _, left.idxOf other, .str other, rfl, rfl, SqL.of e1, rfl, ?_, ?_, ?_, ?_, ?_⟩
    · unfold sV; rw [List.all_map]; exact List.all_eq_true.mpr fun _ _ => rfl
    · unfold sV
      rw [List.getElem?_map, List.getElem?_eq_getElem hj, List.getElem_idxOf hj]
      rfl
    · show (other == other) = true
      simp
    · intro m z' hm hz
      obtain ⟨y, hy, rfl⟩ := sV_at hz
      show (y == other) = false
      have hyo : y ≠ other := fun e => by
        have hml := (List.getElem?_eq_some_iff.mp hy).1
        have := idx_le (e ▸ hy)
        omega
      simpa using hyo
    refine ⟨_, _, rfl, rfl, ?_⟩
    refine ⟨_, rfl, _, rfl, _, rfl, D, _, rfl, SqL.of e1, fun p2 np2 => ⟨p2, _, rfl, .inr (SqL.of upd_same), _, rfl, ?_⟩⟩
    have s2 : Same H1 (upd H1 p2 (.lst (cutV (sV left) none (some ((left.idxOf other : Nat) + 1))))) := same_upd np2
    refine ⟨_, rfl, _, rfl, _, rfl, D, _, rfl, SqL.of (s2 _ _ e1), fun p3 np3 => ⟨p3, _, rfl, .inr (SqL.of upd_same), ?_, fun t nt => q _ t (((s1.trans s2).trans (same_upd np3)).trans (same_upd nt)) ?_⟩⟩
    · have z1 := cutV_length (sV left) none (some ((left.idxOf other : Nat) + 1))
      have z2 := cutV_length (sV left) (some ((left.idxOf other : Nat) + 1)) none
      have z3 := sV_len left
      simp only [List.length_append, List.length_cons, List.length_nil]
      omega
    · rw [upd_same, hpb]
      congr 2
      have c1 : (((left.idxOf other : Nat) : Int) + 1) = ((left.idxOf other + 1 : Nat) : Int) := by omega
      rw [c1, cut_to _ _ (by rw [sV_len]; omega), cut_from _ _ (by rw [sV_len]; omega)]
      simp [sV, List.map_take, List.map_drop]
theorem sc_led_rows : FnScope ["upper", "lower", "kind", "above", "below", "name"] ["upper", "lower", "kind"] (defScope dLed.st) := ⟨rfl, rfl, rfl, by decide +kernel, rfl, by decide +kernel, by decide +kernel⟩
def spLed : Sp := fun vs H Q _ => ∃ a b u l k, vs = [.ref a, .ref b, .str (kN k)] ∧ H a = some (.tup (sV u)) ∧ H b = some (.tup (sV l)) ∧ Rows u l ∧
  ∀ H' t x y, Same H H' → H' t = some (.tup [.ref x, .ref y]) → H' x = some (.tup (sV (ledR u l k).1)) → H' y = some (.tup (sV (ledR u l k).2)) → Q (.ref t) H'
theorem sV_last {u : List Str} (h : 1 ≤ u.length) : (sV u).getLast? = some (.str (u.getLastD "")) := by
  unfold sV
  rw [List.getLast?_map, last_of h]
  rfl
theorem ok_led_rows (T : Txt K mg) : Cal P w K mg base 2 dLed ["upper", "lower", "kind"] spLed := by
  have C_put_behind := ok_put_behind (P := P) (w := w) (base := base) T
  refine Cal.of T (List.mem_of_getElem? (i := 27) rfl) sc_led_rows (fun _ _ _ _ _ _ us hl => match us, hl with | [_, _, _], _ => rfl) (fun vs H Q E h => ?_) (fun cdv A outer st0 H vs Q E hr h => ?_)
  · obtain ⟨a, b, u, l, k, rfl, _⟩ := h
    rfl
  · obtain ⟨a, b, u, l, k, rfl, ea, eb, R, q⟩ := h
    refine ⟨_, PSs.nox (pss_cons (ps_asg (pe_tup (pa_cons (pe_ix ix_tup (pv 0) (pe_un un_neg pe_int) (fun _ _ => rfl)) (pa_cons (pe_ix ix_tup (pv 1) (pe_un un_neg pe_int) (fun _ _ => rfl)) pa_nil))) (pg_tup rfl (pgs_cons (pg_name (i := 3) sc_led_rows.nd rfl (Or.inr rfl)) (pgs_cons (pg_name (i := 4) sc_led_rows.nd rfl (Or.inr rfl)) pgs_nil))))
      (pss_cons (ps_if (pt_cmpR op_eq (pv 2) (pe_gs (T.s "UPPER" "upper")) (nomark _))
      (pss_one (ps_ret (pe_tup (pa_cons (pv 0) (pa_cons (pe_cal C_put_behind (hr.mono (by decide)) (T.g "put_behind") (pa_cons (pv 1) (pa_cons (pv 4) (pa_cons (pv 3) pa_nil)))) pa_nil)))))
      pss_nil)
      (pss_cons (ps_if (pt_cmpR op_eq (pv 2) (pe_gs (T.s "LOWER" "lower")) (nomark _))
      (pss_one (ps_ret (pe_tup (pa_cons (pe_cal C_put_behind (hr.mono (by decide)) (T.g "put_behind") (pa_cons (pv 0) (pa_cons (pv 3) (pa_cons (pv 4) pa_nil)))) (pa_cons (pv 1) pa_nil)))))
      pss_nil)
      (pss_one ps_never)))), ?_⟩
    have big := size_big
    obtain ⟨h1, h10, nd, hn⟩ := R.row
    obtain ⟨g1, g10, ndl, hnl⟩ := R.rowL
    refine ⟨.ref a, rfl, 1, rfl, a, sV u, _, _, rfl, rfl, SqT.of ea, atI_lastD (sV_last h1), .ref b, rfl, 1, rfl, b, sV l, _, _, rfl, rfl, SqT.of eb, atI_lastD (sV_last g1), by show 2 ≤ _; omega, fun tp ntp => ?_⟩
    have s1 : Same H (upd H tp (.tup [.str (u.getLastD ""), .str (l.getLastD "")])) := same_upd ntp
    refine ⟨tp, _, rfl, SqT.of upd_same, rfl, _, _, rfl, _, _, rfl, rfl, ?_⟩
    generalize upd H tp (.tup [.str (u.getLastD ""), .str (l.getLastD "")]) = H1 at s1
    have hul : u.getLastD "" ∈ u := List.mem_of_getLast? (last_of h1)
    have hll : l.getLastD "" ∈ l := List.mem_of_getLast? (last_of g1)
    cases k with
    | true =>
      refine ⟨_, rfl, rfl, _, rfl, itT (by decide) ?_⟩
      refine ⟨_, rfl, _, rfl, _, rfl, _, rfl, b, l, _, _, rfl, s1 _ _ eb, g10, R.ok.mem.mpr hul, rows_last R, fun H2 r s2 e2 => ⟨by show 2 ≤ _; omega, fun t nt => ?_⟩⟩
      exact q _ t a r ((s1.trans s2).trans (same_upd nt)) upd_same ((same_upd nt) _ _ (s2 _ _ (s1 _ _ ea))) ((same_upd nt) _ _ e2)
    | false =>
      refine ⟨_, rfl, rfl, _, rfl, itF (by decide) ⟨_, rfl, rfl, _, rfl, itT (by decide) ?_⟩⟩
      refine ⟨_, rfl, _, rfl, _, rfl, a, u, _, _, rfl, s1 _ _ ea, h10, R.ok.mem.mp hll, (rows_last R).symm, fun H2 r s2 e2 => ⟨_, rfl, by show 2 ≤ _; omega, fun t nt => ?_⟩⟩
      exact q _ t r b ((s1.trans s2).trans (same_upd nt)) upd_same ((same_upd nt) _ _ e2) ((same_upd nt) _ _ (s2 _ _ (s1 _ _ eb)))
theorem sc_is_kinds : FnScope ["value", "kind"] ["value"] (defScope dIsKinds.st) := ⟨rfl, rfl, rfl, by decide +kernel, rfl, by decide +kernel, by decide +kernel⟩
def spIsKinds : Sp := fun vs H Q _ => ∃ a ks, vs = [.ref a] ∧ H a = some (.tup (kW ks)) ∧ ks.length ≤ 4000 ∧ ∀ H', Same H H' → Q (.bl true) H'
theorem ok_is_kinds (T : Txt K mg) : Cal P w K mg base 1 dIsKinds ["value"] spIsKinds := by
  refine Cal.of T (List.mem_of_getElem? (i := 28) rfl) sc_is_kinds (fun _ _ _ _ _ _ us hl => match us, hl with | [_], _ => rfl) (fun vs H Q E h => ?_) (fun cdv A outer st0 H vs Q E hr h => ?_)
  · obtain ⟨a, ks, rfl, _⟩ := h
    rfl
  · obtain ⟨a, ks, rfl, ea, hl, q⟩ := h
    refine ⟨_, PSs.nox (pss_cons (ps_if (PW.pt (pw_or (pt_not (pt_val (pe_callB call_isi (by rfl) (T.f "isinstance") (by decide +kernel) (pa_cons (pv 0) (pa_cons (pe_tyn (n := "tuple") (T.f "tuple")) pa_nil))))) (pw_or1 (pt_cmpR op_gt (pe_callB call_len_seq (by rfl) (T.f "len") PySem.boot_len (pa_cons (pv 0) pa_nil)) (pe_gi (T.i "MAX_COURSE" 4000)) (nomark _)))))
      (pss_one (ps_ret pe_bl))
      pss_nil)
      (pss_one (ps_ret (pe_callB (cr_all rfl) (by rfl) (T.f "all") (by decide +kernel) (pa_cons (pe_lc (own := [("kind", 1)]) (g := (gName 1)) (tt := tYes) (te := tAndV (tCB (rIsi K) (tCons (tVar 1) (tCons (tC (.ty "str")) tNil))) (tOp (rIn K false) (tVar 1) (tC (.ref (gA "KINDS" K))))) rfl sc_is_kinds.nd (pi_tup (pv 0)) (blkOk_by (N := ["value", "kind"]) (sc := defScope dIsKinds.st) (by decide +kernel)) (fun _ _ _ _ _ => (pg_name (i := 1) sc_is_kinds.nd rfl (Or.inl rfl))) (fun _ _ _ _ _ => pts_nil) (fun _ _ _ _ _ => (pe_and (pe_callB call_isi (by rfl) (T.f "isinstance") (by decide +kernel) (pa_cons (pv 1) (pa_cons (pe_tyn (n := "str") (T.f "str")) pa_nil))) (pe_one (pe_cmpR op_in_seq (pv 1) (pe_gr (T.g "KINDS")) (by rfl)))))) pa_nil))))), ?_⟩
    have big := size_big
    have hk := kW_len ks
    refine ⟨.ref a, rfl, .ref a, .ty "tuple", .type "tuple", .type "tuple", true, rfl, .ty _, .base (.tup ea), kit_self rfl, true, rfl, itF rfl ?_⟩
    refine ⟨.ref a, rfl, a, _, rfl, .inr (SqT.of ea), _, _, rfl, rfl, _, rfl, itF (decide_eq_false (by omega)) ?_⟩
    refine ⟨.ref a, rfl, a, rfl, ⟨_, SqT.of ea⟩, fun D nD => lc_it walk_tup (LcP H D fun i => (List.replicate i true).map V.bl) (LcP.start nD rfl) (fun _ _ _ p => SqT.of (p.1 _ _ ea)) (fun i v H3 H4 hi p y => ?_) (fun H1 p1 => ?_)⟩
    · obtain ⟨rfl, hv⟩ := y
      obtain ⟨k, hk2, rfl⟩ := kW_at hv
      refine ⟨rfl, _, rfl, _, .ty "str", .type "str", .type "str", true, rfl, .ty _, .base (.str _), kit_self rfl, true, rfl, itT rfl ⟨_, rfl, _, _, rfl, .inr (T.kd _), rfl, by decide, ?_⟩⟩
      have e : inV (.str (kN k)) [.str "upper", .str "lower", .str "even"] = true := by cases k <;> decide
      show ∃ acc, _
      refine p.step nD (Same.refl _) ?_ (by simp; omega)
      show _ = _ ++ [V.bl (inV (.str (kN k)) [.str "upper", .str "lower", .str "even"])]
      rw [e]
      simp [List.replicate_succ']
    · refine ⟨D, List.replicate (kW ks).length true, rfl, SqL.of p1.2, ?_⟩
      have e : (List.replicate (kW ks).length true).all id = true := by simp
      rw [e]
      exact q _ p1.1
end
end R49
set_option Elab.async false
set_option linter.all false
set_option maxRecDepth 100000
set_option maxHeartbeats 1000000
/-! R8a: a generator whose consumer stores names in its own frame at L while it sleeps. -/
namespace R49
open PySem PySem.Spec PyProof.Rows L2 GenW

abbrev Ph := List V → (Str → Option Value) → Prop
abbrev XF (X : Cx) (s0 : Shared) : Cx := { X with s_0 := s0 }
structure Snap (L : Addr) (X : Cx) (s0 : Shared) : Prop where
  os : s0.os = X.s_0.os
  sz : s0.heap.objs.size = X.s_0.heap.objs.size
  keep : ∀ b, b ≠ L → s0.heap.get? b = X.s_0.heap.get? b
structure FrL (L : Addr) (X : Cx) : Prop where
  fs : L ∈ X.fs
  lt : L < X.s_0.heap.objs.size
  ex : X.ex = []
  nc : ∀ x c, X.env.cells.lookup x = some c → False
def GJ (X : Cx) (L : Addr) (Φ : Ph) (ip : List (Addr × Obj)) (ys : List V) (σ : L2.St) (H : Hp) (s : Shared) : Prop :=
  ∃ s0 m, Snap L X s0 ∧ s0.heap.Ns L m ∧ Φ ys m ∧ Inv (XF X s0) ip σ H s
structure Woke (L : Addr) (Ψ : (Str → Option Value) → Prop) (s s' : Shared) : Prop where
  os : s'.os = s.os
  bare : AllBare s'.gens
  keep : ∀ b o, b ≠ L → s.heap.get? b = some o → s'.heap.get? b = some o
  own : ∃ m, s'.heap.Ns L m ∧ Ψ m

theorem funs_other {h h' base : Heap} {L : Addr} (k : ∀ b, b ≠ L → h'.get? b = h.get? b) (hL : ∃ o, h'.get? L = some o ∧ ∀ vs, o.data ≠ .fields vs) :
    ∀ {l : List Env}, h.FunFrames base l → h'.FunFrames base l
  | [], _ => trivial
  | env :: rest, hl => by
    obtain ⟨hk, ⟨M, o, hf, hn, ho, hd⟩, hr⟩ := hl
    refine ⟨hk, ?_, funs_other k hL hr⟩
    by_cases e : M = L
    · obtain ⟨o', ho', hd'⟩ := hL
      exact ⟨M, o', hf, hn, by rw [e]; exact ho', hd'⟩
    · exact ⟨M, o, hf, hn, (k M e).trans ho, hd⟩

theorem GJ.woken {X : Cx} {L : Addr} {Φ : Ph} {ip : List (Addr × Obj)} {ys zs : List V} {σ : L2.St} {H : Hp} {s s' : Shared} (F : FrL L X) (h : GJ X L Φ ip ys σ H s) (z : Woke L (Φ zs) s s') :
    GJ X L Φ ip zs σ H s' := by
  obtain ⟨s0, m, Sn, hns, _, I⟩ := h
  obtain ⟨zo, zb, zk, m', zn, zΦ⟩ := z
  obtain ⟨oL, _, _, hoL, _⟩ := id hns
  obtain ⟨oL', es', ep', hoL', hd', hr'⟩ := id zn
  have hfL : oL'.isFreed = false := Obj.isFreed_of_dict hd'
  have up : (s0.heap.update L fun _ => oL').get? L = some oL' := Heap.get?_update_self (fun _ => oL') hoL hfL
  have ot : ∀ b, b ≠ L → (s0.heap.update L fun _ => oL').get? b = s0.heap.get? b := fun b hb => Heap.get?_update_other _ _ (Ne.symm hb)
  have szu : (s0.heap.update L fun _ => oL').objs.size = s0.heap.objs.size := Heap.size_update _ _ _
  have hLf : L ∈ (XF X s0).fs := F.fs
  have hB : X.base.get? L = none := (I.ok.funs.mem hLf).1
  have hexn : ∀ b, b ∉ X.ex := fun b q => by rw [F.ex] at q; cases q
  have h0L : X.H_0 L = none := I.ok.frf L hLf
  have hHL : H L = none := I.base.free L oL hoL h0L (hexn L)
  have locL : X.env.locals ≠ L := by
    have h1 : s0.heap.objs.size ≤ X.env.locals := I.ok.above
    have h3 : L < X.s_0.heap.objs.size := F.lt
    have h6 : s0.heap.objs.size = X.s_0.heap.objs.size := Sn.sz
    intro q
    rw [q, h6] at h1
    exact absurd (Nat.lt_of_lt_of_le h3 h1) (Nat.lt_irrefl _)
  have nt : ∀ b u, H b = some u → b ≠ L := fun b u q e => by rw [e, hHL] at q; cases q
  refine ⟨{ s0 with heap := s0.heap.update L fun _ => oL' }, m', ⟨Sn.os, szu.trans Sn.sz, fun b hb => (ot b hb).trans (Sn.keep b hb)⟩, ⟨oL', es', ep', up, hd', hr'⟩, zΦ, ?_⟩
  refine ⟨⟨I.ok.mod, I.ok.kind, I.ok.glob, I.ok.blt, ?_, I.ok.inj, I.ok.has, fun x c _ hc => (F.nc x c hc).elim, I.ok.hd, I.ok.frames, I.ok.stk, I.ok.exf, fun b o e => ?_, ?_, I.ok.noex, I.ok.exfs, ?_, I.ok.frf⟩,
    zo.trans I.os, zb, ⟨fun b o e n hb hx => ?_, fun b o e n hb hx => ?_, fun b o e n hx => ?_, fun b o e hx => ?_, I.base.tups, I.base.frzs, I.base.tbls⟩, ?_, fun x c hc => (F.nc x c hc).elim, I.free, fun x c hc => (F.nc x c hc).elim, fun p hp => ?_, fun b u q => ?_, I.len⟩
  · show (s0.heap.update L _).objs.size ≤ _
    rw [szu]; exact I.ok.above
  · have hb : b ≠ L := fun q => by rw [q, hB] at e; cases e
    exact ⟨(ot b hb).trans (I.ok.bs b o e).1, (I.ok.bs b o e).2⟩
  · show _ ≤ (s0.heap.update L _).objs.size
    rw [szu]; exact I.ok.bsz
  · exact funs_other ot ⟨oL', up, fun vs q => by rw [hd'] at q; cases q⟩ I.ok.funs
  · have hbL : b ≠ L := fun q => hb (by rw [q]; exact hLf)
    have e' : s0.heap.get? b = some o := (ot b hbL).symm.trans e
    exact zk b o hbL (I.base.keep b o e' n hb hx)
  · by_cases hbL : b = L
    · rw [hbL] at e ⊢
      have : some oL' = some o := up.symm.trans e
      cases this
      exact ⟨oL'.slots, hoL'⟩
    · have e' : s0.heap.get? b = some o := (ot b hbL).symm.trans e
      obtain ⟨sl, q⟩ := I.base.slot b o e' n hb hx
      exact ⟨sl, zk b _ hbL q⟩
  · by_cases hbL : b = L
    · rw [hbL]; exact hHL
    · exact I.base.free b o ((ot b hbL).symm.trans e) n hx
  · by_cases hbL : b = L
    · rw [hbL]; exact ⟨oL', hoL'⟩
    · obtain ⟨o', q⟩ := I.base.there b o ((ot b hbL).symm.trans e) hx
      exact ⟨o', zk b o' hbL q⟩
  · obtain ⟨mm, hn, hl⟩ := I.loc
    refine ⟨mm, hn.at' fun o e => zk _ o locL e, fun i x v e1 e2 e3 => ?_⟩
    obtain ⟨u, r, l⟩ := hl i x v e1 e2 e3
    refine ⟨u, r, ?_⟩
    rcases l with l | ⟨_, c, e, _⟩
    · exact .inl l
    · exact (F.nc x c e).elim
  · obtain ⟨e, n, ne, nf, d⟩ := I.pin p hp
    exact ⟨zk p.1 p.2 (fun q => nf (by rw [q]; exact hLf)) e, n, ne, nf, d⟩
  · refine (I.hok b u q).stay (fun c v hc y => zk c v ?_ y) (fun _ y => y) fun _ _ y => y
    rcases hc with y | y
    · rw [y]; exact nt b u q
    · exact nt c _ y

end R49
set_option Elab.async false
set_option linter.all false
set_option maxRecDepth 100000
set_option maxHeartbeats 1000000
/-! R8b: for in a generator, at Seg. -/
namespace R49
open PySem PySem.Spec PyProof.Rows L2 GenW

abbrev No : Value → Shared → Prop := fun _ _ => False
abbrev loopRet (env : Env) (K : Flow → Sem PySem.Fin) (J : Value → Sem PySem.Fin) (gd : Bool → Bool) (lv : List Value → List Value) : Result → Sem PySem.Fin :=
  fun r => ((match r with | .ok f => (.pure f : Sem Flow) | .error e => .raise e).onRaise (cameBack env)).wrap K J gd lv
abbrev turnEnd (c0 : Code) : Flow → Sem PySem.Fin := fun f => match f with
  | .next | .cont => .pure (.again c0)
  | .brk => .pure (.done .next)
  | .ret v => .pure (.done (.ret v))
abbrev turnExc (env : Env) : Value → Sem PySem.Fin := fun e => (do noteFrame e env; theTreesLotGoes e : Sem Unit).wrap (fun _ => .raise e) .raise id id

section
variable {prog : Program} {w : World} {A : Around} {R : GenEnd} {Y : Protocol} {n : Nat} {s₀ : Shared} {c : Code} {fs : List Frame} {s : Shared} {env : Env}
  {K : Flow → Sem PySem.Fin} {J : Value → Sem PySem.Fin} {gd : Bool → Bool} {lv : List Value → List Value}

theorem segForHead {tg iter : Expr} {body orelse : List Stmt} {pos : Pos} (hs : ∀ x, foldedSetIterable iter env x = pure x)
    (h : wpAny (model prog w) (A.over c fs) (eval iter env) (fun v s1 => wpAny (model prog w) (A.over c fs) (pyIter v) (fun it s2 => ∀ p, Seg (model prog w) A R Y n s₀ (.forLoop tg it body orelse env)
      ((model prog w).den (.forLoop tg it body orelse env)) (.ret (loopRet env K J gd lv) none (gd false) (lv []) c p [] :: fs) s2) No s1) No s) :
    Seg (model prog w) A R Y n s₀ c ((exec (.For tg iter body orelse pos) env).wrap K J gd lv) fs s := by
  rw [arm_exec_For]
  refine seg_bind_wrap (wpAny_standAt ?_)
  refine seg_bind_wrap (wpAny_mono h (fun v s1 h1 => ?_) fun _ _ z => z.elim)
  refine seg_bind_wrap (wpAny_of_eq (hs v) ?_)
  refine seg_bind_wrap (wpAny_standAt ?_)
  refine seg_bind_wrap (wpAny_holding ?_)
  refine wpAny_mono h1 (fun it s2 h2 => ?_) fun _ _ z => z.elim
  exact seg_call h2

theorem segForTurn {tg : Expr} {it : Value} {body : List Stmt}
    (h : wpAny (model prog w) (A.over (.forLoop tg it body [] env) fs) (pyNext it) (fun r s1 => match r with
      | none => Seg (model prog w) A R Y n s₀ (.block [] env) (.pure (.done .next)) fs s1
      | some v => wpAny (model prog w) (A.over (.forLoop tg it body [] env) fs) (letOwnedTupleGo tg it v) (fun _ s1' =>
          wpAny (model prog w) (A.over (.forLoop tg it body [] env) fs) (assign tg env v) (fun _ s2 =>
            Seg (model prog w) A R Y n s₀ (.forLoop tg it body [] env) ((execs body env).wrap (turnEnd (.forLoop tg it body [] env)) (turnExc env) id id) fs s2) No s1') No s1) No s) :
    Seg (model prog w) A R Y n s₀ (.forLoop tg it body [] env) ((model prog w).den (.forLoop tg it body [] env)) fs s := by
  show Seg _ A R Y n s₀ _ ((forTurn tg it body [] env).onRaise (fun x => do noteFrame x env; theTreesLotGoes x)) fs s
  unfold forTurn
  rw [Sem.onRaise_eq_wrap]
  refine seg_bind_wrap (wpAny_standAt ?_)
  refine seg_bind_wrap (wpAny_onRaise (wpAny_mono h (fun r s1 h1 => ?_) fun _ _ z => z.elim))
  cases r with
  | none =>
    refine seg_again rfl ?_
    show Seg _ A R Y n s₀ _ (((execs [] env).onRaise (fun x => do noteFrame x env; theTreesLotGoes x)) >>= fun f => .pure (.done f)) fs s1
    exact h1
  | some v =>
    refine seg_bind_wrap (wpAny_mono h1 (fun _ s1' h1' => ?_) fun _ _ z => z.elim)
    refine seg_bind_wrap (wpAny_mono h1' (fun _ s2 h2 => ?_) fun _ _ z => z.elim)
    rw [Sem.bind_eq_wrap', Sem.wrap_wrap]
    rw [Sem.wrap_congr (execs body env) _ _ (K' := turnEnd (.forLoop tg it body [] env)) (H' := turnExc env) (fun f => by cases f <;> rfl)
      (fun e => by first | exact Sem.bind_eq_wrap _ _ | (show (do noteFrame e env; theTreesLotGoes e : Sem Unit).bind (fun _ => .raise e) = _; rw [Sem.bind_eq_wrap]))]
    exact h2
end

/-! ### judgements over all snapshots -/
structure FrN (L : Addr) (X : Cx) : Prop extends FrL L X where
  nx : ∀ e s, X.xe e s → False
  calm : X.calm = true

def GY2 (X : Cx) (L : Addr) (Φ : Ph) : Protocol := fun n s₀ v s kap =>
  ∃ ys x ip σ H, n + 1 + ys.length = sizeLine ∧ RelV x v ∧ GJ X L Φ ip ys σ H s ∧ ∀ s', Woke L (Φ (ys ++ [x])) s s' → kap (.send .none) s'
def GR2 (X : Cx) (L : Addr) (Φ : Ph) (Q : List V → VK) : GenEnd := fun n s₀ r s => match r with
  | .ok (.ret u) => ∃ ys v ip σ H, n + ys.length = sizeLine ∧ GJ X L Φ ip ys σ H s ∧ RelV v u ∧ Q ys v H
  | _ => False
def GSP2 (X : Cx) (L : Addr) (Φ : Ph) (ip : List (Addr × Obj)) (D : GEnds) (ys : List V) (f : Flow) (s : Shared) : Prop :=
  match f with
  | .next => ∃ σ H, GJ X L Φ ip ys σ H s ∧ D.nx ys σ H
  | .brk => ∃ σ H, GJ X L Φ ip ys σ H s ∧ D.bk ys σ H
  | .cont => ∃ σ H, GJ X L Φ ip ys σ H s ∧ D.ct ys σ H
  | .ret u => ∃ v σ H, GJ X L Φ ip ys σ H s ∧ RelV v u ∧ D.rt ys v H
structure GC2 (X : Cx) (A : Around) (c : Code) (fs : List Frame) (gd : Bool → Bool) : Prop where
  over : A.over c fs = X.A
  split : splitAtGen fs = none
  guard : fs.any Frame.guarded = false
  gd : gd false = false
def GK2 (X : Cx) (L : Addr) (Φ : Ph) (ip : List (Addr × Obj)) (A : Around) (R : GenEnd) (c : Code) (fs : List Frame) (K : Flow → Sem PySem.Fin) (D : GEnds) : Prop :=
  ∀ (n : Nat) (ys : List V) (s₀ s : Shared) (f : Flow), n + ys.length = sizeLine → GSP2 X L Φ ip D ys f s → Seg (model X.prog X.w) A R (GY2 X L Φ) n s₀ c (K f) fs s
structure GS2 (X : Cx) (L : Addr) (Φ : Ph) (st : Stmt) (t : TGn) : Prop where
  run : ∀ (A : Around) (ip : List (Addr × Obj)) (R : GenEnd) (n : Nat) (ys : List V) (s₀ : Shared) (c : Code) (fs : List Frame) (K : Flow → Sem PySem.Fin) (J : Value → Sem PySem.Fin) (gd : Bool → Bool) (lv : List Value → List Value) (s : Shared) (σ : L2.St) (H : Hp) (D : GEnds),
    FrN L X → GC2 X A c fs gd → n + ys.length = sizeLine → GK2 X L Φ ip A R c fs K D → GJ X L Φ ip ys σ H s → t D ys σ H →
    Seg (model X.prog X.w) A R (GY2 X L Φ) n s₀ c ((exec st X.env).wrap K J gd lv) fs s
structure GSs2 (X : Cx) (L : Addr) (Φ : Ph) (st : List Stmt) (t : TGn) : Prop where
  run : ∀ (A : Around) (ip : List (Addr × Obj)) (R : GenEnd) (n : Nat) (ys : List V) (s₀ : Shared) (c : Code) (fs : List Frame) (K : Flow → Sem PySem.Fin) (J : Value → Sem PySem.Fin) (gd : Bool → Bool) (lv : List Value → List Value) (s : Shared) (σ : L2.St) (H : Hp) (D : GEnds),
    FrN L X → GC2 X A c fs gd → n + ys.length = sizeLine → GK2 X L Φ ip A R c fs K D → GJ X L Φ ip ys σ H s → t D ys σ H →
    Seg (model X.prog X.w) A R (GY2 X L Φ) n s₀ c ((execs st X.env).wrap K J gd lv) fs s

section
variable {X : Cx} {L : Addr} {Φ : Ph} {st : Stmt} {rest : List Stmt}
theorem sp_gsp2 {ip : List (Addr × Obj)} {s s0 : Shared} {m : Str → Option Value} {D : GEnds} {ys : List V} {f : Flow} (a : Snap L X s0) (b : s0.heap.Ns L m) (p : Φ ys m) (h : SP (XF X s0) ip (D.at ys) f s) : GSP2 X L Φ ip D ys f s := by
  cases f with
  | next => obtain ⟨σ, H, I, q⟩ := h; exact ⟨σ, H, ⟨s0, m, a, b, p, I⟩, q⟩
  | brk => obtain ⟨σ, H, I, q⟩ := h; exact ⟨σ, H, ⟨s0, m, a, b, p, I⟩, q⟩
  | cont => obtain ⟨σ, H, I, q⟩ := h; exact ⟨σ, H, ⟨s0, m, a, b, p, I⟩, q⟩
  | ret u => obtain ⟨v, σ, H, I, r1, q⟩ := h; exact ⟨v, σ, H, ⟨s0, m, a, b, p, I⟩, r1, q⟩
theorem gs2_ps {t : TS} (h : ∀ s0, PS (XF X s0) st t) : GS2 X L Φ st (tPlain t) := by
  refine ⟨fun A ip R n ys s₀ c fs K J gd lv s σ H D F g hn k hI ht => ?_⟩
  obtain ⟨s0, m, a, b, p, I⟩ := hI
  refine seg_wrap ?_
  rw [g.over]
  exact wpAny_mono ((h s0).run _ s σ H (D.at ys) I ht) (fun f s' hs => k n ys s₀ s' f hn (sp_gsp2 a b p hs)) fun x s' hx => (F.nx x s' hx).elim
theorem gss2_pss {t : TS} (h : ∀ s0, PSs (XF X s0) rest t) : GSs2 X L Φ rest (tPlain t) := by
  refine ⟨fun A ip R n ys s₀ c fs K J gd lv s σ H D F g hn k hI ht => ?_⟩
  obtain ⟨s0, m, a, b, p, I⟩ := hI
  refine seg_wrap ?_
  rw [g.over]
  exact wpAny_mono ((h s0).run _ s σ H (D.at ys) I ht) (fun f s' hs => k n ys s₀ s' f hn (sp_gsp2 a b p hs)) fun x s' hx => (F.nx x s' hx).elim
theorem gss2_nil : GSs2 X L Φ [] tG0 := by
  refine ⟨fun A ip R n ys s₀ c fs K J gd lv s σ H D F g hn k hI ht => ?_⟩
  exact seg_execs_nil (k n ys s₀ s .next hn ⟨σ, H, hI, ht⟩)
theorem gss2_cons {t u : TGn} (a : GS2 X L Φ st t) (b : GSs2 X L Φ rest u) : GSs2 X L Φ (st :: rest) (tGThen t u) := by
  refine ⟨fun A ip R n ys s₀ c fs K J gd lv s σ H D F g hn k hI ht => ?_⟩
  refine seg_execs_cons ?_
  refine a.run A ip R n ys s₀ c fs _ J gd lv s σ H { D with nx := fun ys' σ' H' => u D ys' σ' H' } F g hn (fun n' ys' s₀' s' f hn' hs => ?_) hI ht
  cases f with
  | next =>
    obtain ⟨σ', H', I', q⟩ := hs
    exact b.run A ip R n' ys' s₀' c fs K J gd lv s' σ' H' D F g hn' k I' q
  | brk => exact k n' ys' s₀' s' .brk hn' hs
  | cont => exact k n' ys' s₀' s' .cont hn' hs
  | ret u => exact k n' ys' s₀' s' (.ret u) hn' hs
theorem gs2_yield {e : Expr} {yp pos : Pos} {te : TE} (he : ∀ s0, PE (XF X s0) e te) (hco : X.env.scope.isCoroutine = false := by rfl) (hi : interactive X.env = false := by rfl) : GS2 X L Φ (.Expr (.Yield (some e) yp) pos) (tGYield te) := by
  refine ⟨fun A ip R n ys s₀ c fs K J gd lv s σ H D F g hn k hI ht => ?_⟩
  obtain ⟨hlt, ht⟩ := ht
  obtain ⟨n, rfl⟩ : ∃ m, n = m + 1 := ⟨n - 1, by omega⟩
  obtain ⟨s0, m, a, b, p, I⟩ := hI
  refine seg_Expr_Yield g.split g.gd g.guard ?_ hco hi
  rw [g.over]
  refine wpAny_mono ((he s0).run _ s σ H _ I ht) (fun v s' hv => ?_) fun x s' hx => (F.nx x s' hx).elim
  obtain ⟨x, H1, I1, rv, q⟩ := hv
  have G1 : GJ X L Φ ip ys σ H1 s' := ⟨s0, m, a, b, p, I1⟩
  intro kap hk
  refine ⟨ys, x, ip, σ, H1, hn, rv, G1, fun s'' z => hk .none s'' ?_⟩
  refine k n (ys ++ [x]) s'' s'' .next ?_ ⟨σ, H1, G1.woken F.toFrL z, q⟩
  rw [List.length_append, List.length_singleton]; omega
end

/-! ### for -/
def tGFor (wi : TI) (g : TG) (tb : TGn) : TGn := fun D ys σ H => wi σ H fun J H1 => ∃ W : Nat → Nat → List V → L2.St → Hp → Prop, (∃ m, W 0 m ys σ H1) ∧ ∀ i m ys σ H, W i m ys σ H →
  (J.stop i H ∧ D.nx ys σ H) ∨ (J.go i H ∧ ∃ N : List V → L2.St → Hp → Prop, (∀ ys' σ' H', N ys' σ' H' → ∃ m', m' < m ∧ W (i + 1) m' ys' σ' H') ∧
    ∀ x H', J.yld i H x H' → g x σ H' fun σ2 H2 => tb { D with nx := N, ct := N, bk := D.nx } ys σ2 H2)
theorem gc2_loop {X : Cx} {A : Around} {c c' : Code} {fs : List Frame} {gd : Bool → Bool} {k : Result → Sem PySem.Fin} {l kp : List Value} {p : Pos} (g : GC2 X A c fs gd) (hw : c'.weight = 0) (hu : c'.cUnits = 0) :
    GC2 X A c' (.ret k none (gd false) l c p kp :: fs) id where
  over := (over_loop hw hu).trans g.over
  split := by
    show (splitAtGen fs).map _ = none
    rw [g.split]; rfl
  guard := by
    show (gd false || fs.any Frame.guarded) = false
    rw [g.gd, g.guard]; rfl
  gd := rfl
end R49
set_option Elab.async false
set_option linter.all false
set_option maxRecDepth 100000
set_option maxHeartbeats 1000000
/-! R8c: the rule for for in such a generator. -/
namespace R49
open PySem PySem.Spec PyProof.Rows L2 GenW

theorem gs2_for {X : Cx} {L : Addr} {Φ : Ph} {tg iter : Expr} {body : List Stmt} {wi : TI} {g : TG} {tb : TGn} {pos : Pos} (hi : ∀ s0, PI (XF X s0) tg iter wi) (hg : ∀ s0, PG (XF X s0) tg g) (hb : GSs2 X L Φ body tb)
    (hs : ∀ x, foldedSetIterable iter X.env x = pure x := by intro _; rfl) : GS2 X L Φ (.For tg iter body [] pos) (tGFor wi g tb) := by
  refine ⟨fun A ip R n ys s₀ c fs K J gd lv s σ H D F gc hn k hI ht => ?_⟩
  obtain ⟨s0, m, a, b, p, I⟩ := hI
  have hx : ∀ e s, X.xe e s → False := F.nx
  refine segForHead hs ?_
  rw [gc.over]
  refine wpAny_mono ((hi s0).run _ s σ H _ I ht) (fun v s1 h1 => wpAny_mono h1 (fun itv s2 h2 pp => ?_) fun _ _ z => hx _ _ z) fun _ _ z => hx _ _ z
  obtain ⟨it, fp, tn, Jt, H2, e, I2, T, st2, f2, W, ⟨m0, w0⟩, turn⟩ := h2
  subst e
  have stat : ∀ (s0' : Shared) (H' : Hp), Snap L X s0' → (∀ b ∈ fp, H' b = none) → ∀ b ∈ fp, FpOk (XF X s0') ip H' b := fun s0' H' a' hn b hb => by
    obtain ⟨_, q2, q3, q4, q5, q6⟩ := f2 b hb
    refine ⟨hn b hb, q2, q3, q4.imp id fun z => ?_, q5, q6⟩
    have e1 : s0'.heap.objs.size = s0.heap.objs.size := a'.sz.trans a.sz.symm
    have z' : s0.heap.objs.size ≤ b := z
    show s0'.heap.objs.size ≤ b
    rw [e1]; exact z'
  have gl := fun (kk : Result → Sem PySem.Fin) => gc2_loop (k := kk) (c' := .forLoop tg (.ref it) body [] X.env) (l := lv []) (kp := []) (p := pp) gc rfl rfl
  have loop : ∀ (m i n : Nat) (ys : List V) (s₀ s : Shared) (σ : L2.St) (H : Hp), n + ys.length = sizeLine → W i m ys σ H → GJ X L Φ ip ys σ H s → tn i s.heap → (∀ b ∈ fp, H b = none) →
      Seg (model X.prog X.w) A R (GY2 X L Φ) n s₀ (.forLoop tg (.ref it) body [] X.env) ((model X.prog X.w).den (.forLoop tg (.ref it) body [] X.env))
        (.ret (loopRet X.env K J gd lv) none (gd false) (lv []) c pp [] :: fs) s := by
    intro m
    induction m using Nat.strongRecOn with
    | ind m ih =>
      intro i n ys s₀ s σ H hn w hI st fr
      obtain ⟨s0', m', a', b', p', I'⟩ := hI
      refine segForTurn ?_
      rw [(gl _).over]
      rcases turn i m ys σ H w with ⟨stop, qn⟩ | ⟨go, N, hN, step⟩
      · refine wpAny_mono (T.done (XF X s0') rfl rfl rfl F.calm i ip s σ H No I' (stat s0' H a' fr) st stop) (fun r s4 h4 => ?_) fun _ _ z => z
        obtain ⟨hr, I4⟩ := h4
        subst hr
        exact seg_leaf (.ok .next) (k n ys s₀ s4 .next hn ⟨σ, H, ⟨s0', m', a', b', p', I4⟩, qn⟩)
      · refine wpAny_mono (T.item (XF X s0') rfl rfl rfl F.calm i ip s σ H No I' (stat s0' H a' fr) st go) (fun r s4 h4 => ?_) fun _ _ z => z
        obtain ⟨u, hr, h4⟩ := h4
        subst hr
        refine wpAny_mono h4 (fun _ s5 h5 => ?_) fun _ _ z => z
        obtain ⟨x, H5, I5, r5, y5, st5, fr5⟩ := h5
        have I5' := I5.pinned (stat s0' H5 a' fr5) (T.obj _ _ st5)
        refine wpAny_mono ((hg s0').run _ s5 σ H5 x u _ I5' r5 (step x H5 y5)) (fun _ s6 h6 => ?_) fun _ _ z => (hx _ _ z).elim
        obtain ⟨σ6, H6, I6, q6⟩ := h6
        have again : ∀ {n' : Nat} {ys' : List V} {s₀' s7 : Shared} {σ7 : L2.St} {H7 : Hp}, n' + ys'.length = sizeLine → GJ X L Φ (ip ++ pinsAt fp s5.heap) ys' σ7 H7 s7 → N ys' σ7 H7 →
            Seg (model X.prog X.w) A R (GY2 X L Φ) n' s₀' (.forLoop tg (.ref it) body [] X.env) ((model X.prog X.w).den (.forLoop tg (.ref it) body [] X.env))
              (.ret (loopRet X.env K J gd lv) none (gd false) (lv []) c pp [] :: fs) s7 := fun {n' ys' s₀' s7 σ7 H7} hn' G7 n7 => by
          obtain ⟨m'', hm, w7⟩ := hN ys' σ7 H7 n7
          obtain ⟨s0'', m3, a3, b3, p3, I7⟩ := G7
          refine ih m'' hm (i + 1) n' ys' s₀' s7 σ7 H7 hn' w7 ⟨s0'', m3, a3, b3, p3, I7.unpinned⟩ (T.keep _ _ _ st5 fun b hb o e => (I7.pin (b, o) (List.mem_append_right _ (List.mem_append_right _ (mem_pinsAt hb e)))).1) fun b hb => ?_
          obtain ⟨o, e, d⟩ := T.obj _ _ st5 b hb
          exact (I7.pin (b, o) (List.mem_append_right _ (List.mem_append_right _ (mem_pinsAt hb e)))).2.1
        have unp : ∀ {ys' : List V} {s7 : Shared} {σ7 : L2.St} {H7 : Hp}, GJ X L Φ (ip ++ pinsAt fp s5.heap) ys' σ7 H7 s7 → GJ X L Φ ip ys' σ7 H7 s7 := fun {ys' s7 σ7 H7} G7 => by
          obtain ⟨s0'', m3, a3, b3, p3, I7⟩ := G7
          exact ⟨s0'', m3, a3, b3, p3, I7.unpinned⟩
        refine hb.run A (ip ++ pinsAt fp s5.heap) R n ys s₀ _ _ _ _ id id s6 σ6 H6 { D with nx := N, ct := N, bk := D.nx } F (gl _) hn (fun n' ys' s₀' s7 f hn' hs7 => ?_) ⟨s0', m', a', b', p', I6⟩ q6
        cases f with
        | next => obtain ⟨σ7, H7, G7, n7⟩ := hs7; exact seg_again rfl (again hn' G7 n7)
        | cont => obtain ⟨σ7, H7, G7, n7⟩ := hs7; exact seg_again rfl (again hn' G7 n7)
        | brk => obtain ⟨σ7, H7, G7, q7⟩ := hs7; exact seg_leaf (.ok .next) (k n' ys' s₀' s7 .next hn' ⟨σ7, H7, unp G7, q7⟩)
        | ret v => obtain ⟨x7, σ7, H7, G7, r7, q7⟩ := hs7; exact seg_leaf (.ok (.ret v)) (k n' ys' s₀' s7 (.ret v) hn' ⟨x7, σ7, H7, unp G7, r7, q7⟩)
  exact loop m0 0 n ys s₀ s2 σ H2 hn w0 ⟨s0, m, a, b, p, I2⟩ st2 fun b hb => (f2 b hb).1
end R49
set_option Elab.async false
set_option linter.all false
set_option maxRecDepth 100000
set_option maxHeartbeats 1000000
/-! R8d: a generator def's promise to such a consumer. -/
namespace R49
open PySem PySem.Spec PyProof.Rows L2 GenW

abbrev SpW := List V → Hp → (List V → Hp → Prop) → Prop
def REnd2 (P : Program) (w : World) (outer : List Env) (H : Hp) (s : Shared) (L : Addr) (Φ : Ph) (Q : List V → Hp → Prop) : Nat → Shared → Shared → Prop := fun n s₀ s1 =>
  ∃ (H' : Hp) (ys : List V) (s0 : Shared) (m : Str → Option Value), s1.os = s.os ∧ AllBare s1.gens ∧ HOk P w H' s1.heap ∧ s0.heap.Ns L m ∧ Φ ys m ∧ (∀ b, b ≠ L → s0.heap.get? b = s.heap.get? b) ∧ Un (frs outer) [] H H' s0.heap s1.heap ∧ Q ys H'
abbrev RRes2 (F : Nat → Shared → Shared → Prop) : GenEnd := fun n s₀ r s₁ => ((r = .ok (.ret .none) ∨ r = .ok .next) ∧ F n s₀ s₁) ∨ ∃ e, r = .error e ∧ No e s₁
def YItem2 (s : Shared) (L : Addr) (Φ : Ph) (a : Addr) (g : Nat) : Protocol := fun n s₀ v s1 kap =>
  s1.os = s.os ∧ AllBare s1.gens ∧ s1.heap.NoLimit ∧ s1.heap.IsGen a g ∧ ∃ ys x, RelV x v ∧ (∃ m, s1.heap.Ns L m ∧ Φ ys m) ∧ ∀ s', Woke L (Φ (ys ++ [x])) s1 s' → kap (.send .none) s'
def GMade2 (P : Program) (w : World) (k : Nat) (outer : List Env) (H : Hp) (s : Shared) (L : Addr) (Φ : Ph) (Q : List V → Hp → Prop) (u : Value) (s' : Shared) : Prop :=
  ∃ (a : Addr) (g : Nat) (c : Code), u = .ref a ∧ s.heap.objs.size ≤ a ∧ s'.heap.IsGen a g ∧ s'.gens[g]? = some (.fresh c) ∧ s'.os = s.os ∧ AllBare s'.gens ∧ s'.heap.NoLimit ∧ (∀ b o, s.heap.get? b = some o → s'.heap.get? b = some o) ∧
    ∀ (A : Around) (s2 : Shared), Room k A → A.frames = some outer → Woke L (Φ []) s' s2 → Seg (model P w) A (RRes2 (REnd2 P w outer H s L Φ Q)) (YItem2 s L Φ a g) sizeLine s2 c ((model P w).den c) [] s2
structure GFn2 (P : Program) (w : World) (K : PySem.W.Frag) (mg : Str → Option Value) (base : Heap) (k : Nat) (f : Addr) (fd : FuncData) (ps : List Str) (sp : SpW) : Prop where
  len : ∀ vs H Q, sp vs H Q → vs.length = ps.length
  run : ∀ (A : Around) (outer : List Env) (s : Shared) (H : Hp) (args : Args) (us : List Value) (vs : List V) (Q : List V → Hp → Prop) (L : Addr) (Φ : Ph) (m : Str → Option Value), Room k A → Env0 P w K mg base A outer s H → BindsTo s fd args (ps.zip us) → Vals vs us → sp vs H Q →
    L ∈ frs outer → s.heap.Ns L m → Φ [] m →
    codeAny (model P w) A (.call (.ref f) args) (fun r s' => match r with | .ok (.ret u) => GMade2 P w k outer H s L Φ Q u s' | _ => False) s

abbrev gcx2 (P : Program) (w : World) (K : PySem.W.Frag) (mg : Str → Option Value) (base : Heap) (N : List Str) (qual : Str) (scope : Scope) (f : Addr) (cd : Value) (A : Around) (outer : List Env) (s : Shared) (H : Hp) (pn : List (Addr × Obj)) : Cx :=
  (gcxOf P w K mg base N qual scope f cd A outer s H E0 pn).nox

theorem gfn2_of {P : Program} {w : World} {K : PySem.W.Frag} {mg : Str → Option Value} {base : Heap} {k : Nat} {f : Addr} {name qual : Str} {params : Arguments} {body : List Stmt} {scope : Scope} {dV kV doc pm cdv ct oc : Value} {an od : Option Addr}
    {osl : Array (Option Value)} {N ps : List Str} {sp : SpW} (lk : K.lookup f = some ⟨oc, od, .func (PySem.W.fnOf name qual params body scope dV kV doc pm an cdv ct), osl⟩) (hcd : PySem.W.codeIn K cdv qual = true) (S : GScope N ps scope)
    (hnc : ∀ n, cellsFrom n scope.names [] = [])
    (len : ∀ vs H Q, sp vs H Q → vs.length = ps.length)
    (hbody : ∀ (A : Around) (outer : List Env) (s : Shared) (H : Hp) (vs : List V) (Q : List V → Hp → Prop) (pn : List (Addr × Obj)) (L : Addr) (Φ : Ph), Room k (A.deeper (envOfC qual scope s.heap.objs.size f cdv)) → sp vs H Q →
      ∃ t, GSs2 (gcx2 P w K mg base N qual scope f cdv A outer s H pn) L Φ body t ∧ t { nx := fun ys _ H' => Q ys H', rt := fun ys v H' => v = .non ∧ Q ys H' } [] (start N vs) H) :
    GFn2 P w K mg base (k + 1) f (PySem.W.fnOf name qual params body scope dV kV doc pm an cdv ct) ps sp := by
  refine ⟨len, fun A outer s H args us vs Q L Φ mL hr e0 hb r hsp hLf hLn hΦ => ?_⟩
  have hl := len _ _ _ hsp
  have KX : K.In s.heap := e0.mod.kin.keeps fun b o e => (e0.bs b o e).1
  have lim : s.heap.NoLimit := e0.mod.nolimit.keeps fun b o e => (e0.bs b o e).1
  have hkind : ∀ y ∈ ps.zip us, scope.names.lookup y.1 = some .local ∨ (scope.names.lookup y.1 = some .cell ∧ ((cellsFrom (s.heap.objs.size + 1) scope.names []).lookup y.1).isSome = true) := fun ⟨n, v⟩ hy => by
    rcases S.par n (List.of_mem_zip hy).1 with q | q
    · exact .inl q
    · exact .inr ⟨q, PySem.W.cellsFrom_some _ _ _ (.inl q)⟩
  refine codeAny_call_generator hr.depth (KX _ _ lk) rfl S.co S.gen rfl (PySem.W.codeRec_of KX hcd) (hb _ _ _ _ ?_)
  refine wpAny_newFunctionEnv_cells S.kind hkind fun env he s1 x => ?_
  subst he
  have lim1 : s1.heap.NoLimit := lim.keeps x.toInCall.keep
  refine ⟨lim1, ?_⟩
  obtain ⟨h1, tk, es1, hk1⟩ := x.done
  have os1 : s1.os = s.os := by rw [es1]
  have gen1 : s1.gens = s.gens := by rw [es1]
  have lt1 : s.heap.objs.size < s1.heap.objs.size := x.toInCall.ns.lt
  have sz1 : s.heap.objs.size ≤ s1.heap.objs.size := Nat.le_of_lt lt1
  have kp1 : ∀ b o, s.heap.get? b = some o → s1.heap.get? b = some o := x.toInCall.keep
  have main : ∀ (go : Obj) (nm qn : Value) (tk2 : Nat), go.cls = .type "generator" → go.data = .fields #[.int s1.gens.size 0, nm, qn] → go.slots = #[] → (∀ h : Heap, (h.push go).get? h.objs.size = some go) →
      GMade2 P w (k + 1) outer H s L Φ Q (.ref s1.heap.objs.size) { s1 with gens := s1.gens.push (.fresh (.func body (envOfC qual scope s.heap.objs.size f cdv))), toks := tk2, heap := s1.heap.push go } := by
    intro go nm qn tk2 hgc hgd0 hgs hgp
    have hgen : ∀ h : Heap, h.get? s1.heap.objs.size = some go → h.IsGen s1.heap.objs.size s1.gens.size := fun h e => ⟨go, nm, qn, e, hgc, hgd0, hgs⟩
    have hpushed : (s1.heap.push go).get? s1.heap.objs.size = some go := hgp _
    have kp1' : ∀ b o, s.heap.get? b = some o → (s1.heap.push go).get? b = some o := fun b o e => Heap.get?_push_of_some _ (kp1 b o e)
    have bare' : AllBare (s1.gens.push (.fresh (.func body (envOfC qual scope s.heap.objs.size f cdv)))) := AllBare.push (by rw [gen1]; exact e0.bare) rfl
    refine ⟨s1.heap.objs.size, s1.gens.size, _, rfl, sz1, hgen _ hpushed, Array.getElem?_push_size .., os1, bare', lim1.keeps fun b o e => Heap.get?_push_of_some _ e, kp1', ?_⟩
    intro Aw s2 hrw hfr hwk
    have e0w : Env0 P w K mg base Aw outer s H := ⟨hfr, e0.mod, e0.bs, e0.bsz, e0.funs, e0.frf, e0.hok, e0.bare⟩
    obtain ⟨t, ht, hq⟩ := hbody Aw outer s H vs Q [(s1.heap.objs.size, go)] L Φ (hrw.deeper _) hsp
    have I1 : Inv (gcxOf P w K mg base N qual scope f cdv Aw outer s H E0 []) [] (start N vs) H s1 := inv_startG S hrw.hd e0w hl r x
    have I2 : Inv (gcxOf P w K mg base N qual scope f cdv Aw outer s H E0 []) [] (start N vs) H { s1 with gens := s1.gens.push (.fresh (.func body (envOfC qual scope s.heap.objs.size f cdv))), toks := tk2, heap := s1.heap.push go } :=
      I1.call' (ch := []) rfl (Un.kept fun b o e => Heap.get?_push_of_some _ e) (I1.hok.kept fun b o e => Heap.get?_push_of_some _ e) bare' fun b z => by simp at z
    have hgd : ∀ v, go.data ≠ .cell v := fun v q => by rw [hgd0] at q; cases q
    have young : H s1.heap.objs.size = none ∧ s1.heap.objs.size ≠ s.heap.objs.size ∧ s1.heap.objs.size ∉ frs outer :=
      ⟨I1.hok.fresh (Nat.le_refl _), Nat.ne_of_gt lt1, I1.nofs (Nat.le_refl _)⟩
    have I3 : Inv (gcx2 P w K mg base N qual scope f cdv Aw outer s H [(s1.heap.objs.size, go)]) [] (start N vs) H { s1 with gens := s1.gens.push (.fresh (.func body (envOfC qual scope s.heap.objs.size f cdv))), toks := tk2, heap := s1.heap.push go } :=
      (Inv.pinnedG I2 fun p hp => by
        rcases List.mem_append.mp hp with z | z
        · rw [List.mem_singleton.mp z]
          exact ⟨hpushed, young.1, young.2.1, young.2.2, hgd⟩
        · cases z).wish _
    have FN : FrN L (gcx2 P w K mg base N qual scope f cdv Aw outer s H [(s1.heap.objs.size, go)]) :=
      { fs := hLf, lt := hLn.lt, ex := rfl, nc := fun y c hy => (by
          have hy' : (cellsFrom (s.heap.objs.size + 1) scope.names []).lookup y = some c := hy
          rw [hnc] at hy'
          cases hy'), nx := fun _ _ z => z, calm := rfl }
    have G0 : GJ (gcx2 P w K mg base N qual scope f cdv Aw outer s H [(s1.heap.objs.size, go)]) L Φ [] [] (start N vs) H { s1 with gens := s1.gens.push (.fresh (.func body (envOfC qual scope s.heap.objs.size f cdv))), toks := tk2, heap := s1.heap.push go } :=
      ⟨s, mL, ⟨rfl, rfl, fun _ _ => rfl⟩, hLn, hΦ, I3⟩
    have G1 := G0.woken FN.toFrL hwk
    have pinned : ∀ {ip : List (Addr × Obj)} {ys : List V} {s' : Shared} {σ' : L2.St} {H' : Hp}, GJ (gcx2 P w K mg base N qual scope f cdv Aw outer s H [(s1.heap.objs.size, go)]) L Φ ip ys σ' H' s' → s'.heap.IsGen s1.heap.objs.size s1.gens.size := fun {ip ys s' σ' H'} hI => by
      obtain ⟨s0, m, _, _, _, J⟩ := hI
      exact hgen _ (J.pin (s1.heap.objs.size, go) (List.mem_append_left _ (List.mem_singleton.mpr rfl))).1
    refine seg_func ?_
    refine seg_imp (R := GR2 (gcx2 P w K mg base N qual scope f cdv Aw outer s H [(s1.heap.objs.size, go)]) L Φ (fun ys v H' => v = .non ∧ Q ys H'))
      (Y := GY2 (gcx2 P w K mg base N qual scope f cdv Aw outer s H [(s1.heap.objs.size, go)]) L Φ) (fun n s₀ r s1' hR => ?_) (fun n s₀ v s1' kap kap' hkk hY => ?_) sizeLine ?_
    · cases r with
      | error e => exact False.elim hR
      | ok fl =>
        cases fl with
        | next => exact False.elim hR
        | brk => exact False.elim hR
        | cont => exact False.elim hR
        | ret u =>
          obtain ⟨ys, v, ip, σ', H', hn, hI, rv, ev, hQ⟩ := hR
          subst ev
          have eu : u = Value.none := rv
          subst eu
          obtain ⟨s0, m, Sn, ns, ph, J⟩ := hI
          exact .inl ⟨.inl rfl, H', ys, s0, m, J.os.trans Sn.os, J.bare, J.hok, ns, ph, Sn.keep, J.base, hQ⟩
    · obtain ⟨ys, xx, ip, σ', H', hn, h2, hI, h3⟩ := hY
      have hg := pinned hI
      obtain ⟨s0, m, Sn, ns, ph, J⟩ := hI
      obtain ⟨o, es, ep, ho, hd, hrr⟩ := id ns
      have h0L : H L = none := J.ok.frf L hLf
      obtain ⟨sl, hs1⟩ := J.base.slot L o ho h0L hLf (fun z => by cases z)
      exact ⟨J.os.trans Sn.os, J.bare, J.nolimit, hg, ys, xx, h2, ⟨m, ⟨_, es, ep, hs1, hd, hrr⟩, ph⟩, fun s' z => hkk _ _ (h3 s' z)⟩
    · refine ht.run Aw [] _ sizeLine [] s2 _ [] _ _ id id s2 (start N vs) H _ FN ⟨over_func, rfl, rfl, rfl⟩ (Nat.add_zero _) (fun n ys s₀ s' fl hn hs => ?_) G1 hq
      cases fl with
      | next =>
        obtain ⟨σ', H', hI, hQ⟩ := hs
        exact seg_end (.ok (.ret .none)) ⟨ys, .non, [], σ', H', hn, hI, rfl, rfl, hQ⟩
      | brk => obtain ⟨_, _, _, q⟩ := hs; exact False.elim q
      | cont => obtain ⟨_, _, _, q⟩ := hs; exact False.elim q
      | ret u =>
        obtain ⟨v, σ', H', hI, rv, ev, hQ⟩ := hs
        exact seg_end (.ok (.ret u)) ⟨ys, v, [], σ', H', hn, hI, rv, ev, hQ⟩
  exact main _ _ _ _ rfl rfl rfl fun h => Heap.get?_push_size _ rfl
end R49
set_option Elab.async false
set_option linter.all false
set_option maxRecDepth 100000
set_option maxHeartbeats 1000000
/-! R8e: for rows in g(..): found = rows. -/
namespace R49
open PySem PySem.Spec PyProof.Rows L2 GenW

def PhO (rx fy : Str) (m0 : Str → Option Value) : Ph := fun ys m => (∀ z, z ≠ rx → z ≠ fy → m z = m0 z) ∧ match ys.getLast? with
  | none => m rx = m0 rx ∧ m fy = m0 fy
  | some x => ∃ u, RelV x u ∧ m rx = some u ∧ m fy = some u
def finS (i j : Nat) (σ : L2.St) (ys : List V) : L2.St := match ys.getLast? with
  | none => σ
  | some v => (σ.set i (some v)).set j (some v)

section
variable {X : Cx} {pins : List (Addr × Obj)} {σ : L2.St} {H : Hp} {s s0 : Shared} {i j : Nat} {rx fy : Str} {m0 m : Str → Option Value} {ys : List V}
theorem Inv.refit (I : L2.Inv X pins σ H s) (hN : X.N.Nodup) (hi : X.N[i]? = some rx) (hj : X.N[j]? = some fy) (hkr : X.env.kindOf rx = some .local) (hkf : X.env.kindOf fy = some .local) (hnc : ∀ x c, X.env.cells.lookup x = some c → False)
    (n0 : s.heap.Ns X.env.locals m0) (n1 : s0.heap.Ns X.env.locals m) (ph : PhO rx fy m0 ys m) (keep : ∀ b, b ≠ X.env.locals → s0.heap.get? b = s.heap.get? b) :
    L2.Inv X pins (finS i j σ ys) H { s with heap := s0.heap } := by
  have neL : ∀ b o, X.s_0.heap.get? b = some o → b ≠ X.env.locals := fun b o e => Nat.ne_of_lt (Nat.lt_of_lt_of_le (Heap.lt_size e) I.ok.above)
  have nt : ∀ b u, H b = some u → b ≠ X.env.locals := fun b u q e => by
    have := I.free
    rw [← e, q] at this; cases this
  obtain ⟨oL, _, _, hoL, _⟩ := id n1
  refine ⟨I.ok, I.os, I.bare, ⟨fun b o e n hb hx => ?_, fun b o e n hb hx => ?_, I.base.free, fun b o e hx => ?_, I.base.tups, I.base.frzs, I.base.tbls⟩, ⟨m, n1, fun z x v e1 e2 e3 => ?_⟩, fun x c hc => (hnc x c hc).elim, I.free, fun x c hc => (hnc x c hc).elim, fun p hp => ?_, fun b u q => ?_, ?_⟩
  · exact (keep b (neL b o e)).trans (I.base.keep b o e n hb hx)
  · obtain ⟨sl, q⟩ := I.base.slot b o e n hb hx
    exact ⟨sl, (keep b (neL b o e)).trans q⟩
  · obtain ⟨o', q⟩ := I.base.there b o e hx
    exact ⟨o', (keep b (neL b o e)).trans q⟩
  · obtain ⟨m', hn', hl⟩ := I.loc
    have em : ∀ y, m' y = m0 y := fun y => by
      obtain ⟨o1, es1, ep1, ho1, hd1, hk1, f1⟩ := hn'
      obtain ⟨o2, es2, ep2, ho2, hd2, hk2, f2⟩ := n0
      rw [ho1] at ho2; cases ho2
      rw [hd1] at hd2; cases hd2
      rw [← f1, ← f2]
    have old : ∀ (v : V), σ[z]? = some (some v) → m x = m0 x → ∃ u, RelV v u ∧ Look X.env s0.heap m x u := fun v e2 eq => by
      obtain ⟨u, r, l⟩ := hl z x v e1 e2 e3
      refine ⟨u, r, ?_⟩
      rcases l with ⟨k, q⟩ | ⟨_, c, e, _⟩
      · exact .inl ⟨k, by rw [eq, ← em]; exact q⟩
      · exact (hnc x c e).elim
    obtain ⟨p1, p2⟩ := ph
    unfold finS at e2
    cases hy : ys.getLast? with
    | none =>
      rw [hy] at e2 p2
      refine old v e2 ?_
      by_cases hr : x = rx
      · rw [hr]; exact p2.1
      by_cases hf : x = fy
      · rw [hf]; exact p2.2
      exact p1 x hr hf
    | some y =>
      rw [hy] at e2 p2
      obtain ⟨u, ru, q1, q2⟩ := p2
      have e2 : ((σ.set i (some y)).set j (some y))[z]? = some (some v) := e2
      by_cases hf : x = fy
      · subst hf
        have hz : z = j := nodup_ix hN e1 hj
        subst hz
        have hlt : z < ((σ.set i (some y))).length := by
          rw [List.length_set, I.len]; exact (List.getElem?_eq_some_iff.mp e1).1
        rw [List.getElem?_set_self hlt] at e2
        cases e2
        exact ⟨u, ru, .inl ⟨hkf, q2⟩⟩
      have hzj : j ≠ z := fun q => hf (by rw [q] at hj; rw [hj] at e1; cases e1; rfl)
      rw [List.getElem?_set_ne hzj] at e2
      by_cases hr : x = rx
      · subst hr
        have hz : z = i := nodup_ix hN e1 hi
        subst hz
        have hlt : z < σ.length := by rw [I.len]; exact (List.getElem?_eq_some_iff.mp e1).1
        rw [List.getElem?_set_self hlt] at e2
        cases e2
        exact ⟨u, ru, .inl ⟨hkr, q1⟩⟩
      have hzi : i ≠ z := fun q => hr (by rw [q] at hi; rw [hi] at e1; cases e1; rfl)
      rw [List.getElem?_set_ne hzi] at e2
      exact old v e2 (p1 x hr hf)
  · obtain ⟨e, n, ne, nf, d⟩ := I.pin p hp
    exact ⟨(keep p.1 ne).trans e, n, ne, nf, d⟩
  · refine (I.hok b u q).stay (fun c v hc y => (keep c ?_).trans y) (fun _ y => y) fun _ _ y => y
    rcases hc with y | y
    · rw [y]; exact nt b u q
    · exact nt c _ y
  · unfold finS
    cases ys.getLast? with
    | none => exact I.len
    | some y => simpa using I.len
end

theorem consume {X : Cx} {pins : List (Addr × Obj)} {σ : L2.St} {H1 : Hp} {s1 s2 : Shared} {k i j : Nat} {rx fy : Str} {m0 : Str → Option Value} {Q : List V → Hp → Prop} {u : Value} {p1 p2 p3 p4 : Pos} {D : Ends}
    (hN : X.N.Nodup) (hi : X.N[i]? = some rx) (hj : X.N[j]? = some fy) (hne : rx ≠ fy) (hkr : X.env.kindOf rx = some .local) (hkf : X.env.kindOf fy = some .local) (hdb : (rx == ("__debug__" : Str)) = false)
    (hsw : swapsWith (.Name rx p3) (some (.Name fy p2)) p4.line X.env = pure false)
    (hnc : ∀ x c, X.env.cells.lookup x = some c → False) (hr : Room (k + 1) X.A)
    (I : L2.Inv X pins σ H1 s1) (n0 : s1.heap.Ns X.env.locals m0) (G : GMade2 X.prog X.w k X.stack H1 s1 X.env.locals (PhO rx fy m0) Q u s2) (hQ : ∀ ys H', Q ys H' → D.nx (finS i j σ ys) H') :
    wpAny (model X.prog X.w) X.A (pyIter u) (fun it s3 => codeAny (model X.prog X.w) X.A (.forLoop (.Name rx p1) it [.Assign [.Name fy p2] (.Name rx p3) p4] [] X.env)
      (fun r s' => match r with | .ok f => SP X pins D f s' | .error e => cameBackBy (model X.prog X.w) X.A X.env X.xe e s') s3) X.xe s2 := by
  have hcls : (X.env.scope.kind == .class || (X.env.scope.kind == .module && X.env.locals != X.env.globals)) = false := by rw [I.ok.kind]; rfl
  have hLlt : X.env.locals < s1.heap.objs.size := n0.lt
  have noStat : X.env.locals ≠ cStatics := fun e => by
    have h1 := I.ok.above
    have h2 := I.ok.bsz
    obtain ⟨mc, hn, _⟩ := I.ok.mod.nolimit
    have h3 := hn.lt
    rw [← e] at h3
    exact absurd (Nat.lt_of_lt_of_le h3 (Nat.le_trans h2 h1)) (Nat.lt_irrefl _)
  obtain ⟨a, g, c, rfl, ha1, hg, hgs, hos, hb, hl, hkp, wake⟩ := G
  have haL : a ≠ X.env.locals := Nat.ne_of_gt (Nat.lt_of_lt_of_le hLlt ha1)
  refine wpAny_pyIter_gen hg ?_
  refine codeAny_forLoop_any (fun n s => s.heap.IsGen a g ∧ s.heap.NoLimit ∧ ∃ gs, s.gens[g]? = some gs ∧
    gs.Goes (model X.prog X.w) X.A.in1 (RRes2 (REnd2 X.prog X.w X.stack H1 s1 X.env.locals (PhO rx fy m0) Q)) (YItem2 s1 X.env.locals (PhO rx fy m0) a g) n (.send .none) (s.setGen g .running)) ?_ sizeLine
    ⟨hg, hl, _, hgs, rfl, wake X.A.in1 _ hr.in1 I.ok.frames ⟨rfl, allBare_setGen hb rfl, fun b o _ e => e, m0, n0.at' fun o e => hkp _ o e, fun _ _ _ => rfl, rfl, rfl⟩⟩
  rintro n s3 ⟨hg3, hl3, gs, hgs3, hgo⟩
  have hgl : g < s3.gens.size := (Array.getElem?_eq_some_iff.mp hgs3).1
  refine wpAny_gsz (n := g + 1) hgl (next_genG (A := X.A) (F := REnd2 X.prog X.w X.stack H1 s1 X.env.locals (PhO rx fy m0) Q) (Er := No) (Y := YItem2 s1 X.env.locals (PhO rx fy m0) a g)
    hr.hd hl3 hr.depth hg3 hgs3 hgo (fun v s₁ gs' hbare hv => ?_) (fun s₁ hp h' hk => ?_) fun e s₁ he => he.elim)
  · intro hsz
    obtain ⟨os1, hb1, hl1, hg1, ys, x, rv, ⟨m, nsL, ph⟩, hk⟩ := hv
    dsimp only
    refine wpAny_pure ?_
    refine wpAny_assign_Name (wpAny_storeName_local hkr nsL (fun h1 n1 sb1 => ?_) hcls)
    refine wpAny_execs_cons (wpAny_Assign_Name (wpAny_Name (wpAny_loadName_local I.ok.kind hkr n1 (if_pos rfl) ?_) hdb) hsw)
    refine wpAny_storeName_local hkf n1 (fun h2 n2 sb2 => ?_) hcls
    dsimp only
    refine wpAny_execs_nil ?_
    have kp2 : ∀ b o, b ≠ X.env.locals → s₁.heap.get? b = some o → h2.get? b = some o := fun b o hb e => (sb2.2 b hb).trans ((sb1.2 b hb).trans e)
    have hsz1 : g < s₁.gens.size := by
      have q : (s₁.setGen g gs').gens.size = s₁.gens.size := setGen_size _ _ _
      have hsz' : g + 1 ≤ (s₁.setGen g gs').gens.size := hsz
      omega
    obtain ⟨ph1, _⟩ := ph
    have phN : PhO rx fy m0 (ys ++ [x]) (fun z => if z = fy then some v else if z = rx then some v else m z) := by
      refine ⟨fun z h1 h2 => ?_, ?_⟩
      · dsimp only
        rw [if_neg h2, if_neg h1]
        exact ph1 z h1 h2
      · rw [List.getLast?_append]
        refine ⟨v, rv, ?_, ?_⟩
        · dsimp only
          rw [if_neg hne, if_pos rfl]
        · dsimp only
          rw [if_pos rfl]
    have go : ∀ t, (match n with
        | 0 => False
        | m + 1 => gs'.Goes (model X.prog X.w) X.A.in1 (RRes2 (REnd2 X.prog X.w X.stack H1 s1 X.env.locals (PhO rx fy m0) Q)) (YItem2 s1 X.env.locals (PhO rx fy m0) a g) m (.send .none) (Shared.setGen { s₁.setGen g gs' with heap := h2, toks := t } g .running)) := fun t =>
      hk _ ⟨rfl, allBare_setGen (s := { s₁.setGen g gs' with heap := h2, toks := t }) (allBare_setGen hb1 hbare) rfl, kp2, _, n2, phN⟩
    cases n with
    | zero => exact (go 0).elim
    | succ n =>
      refine ⟨n, Nat.lt_succ_self n, ?_, ?_, gs', setGen_at hsz1, go _⟩
      · obtain ⟨o, nm, qn, ho, r⟩ := hg1
        exact ⟨o, nm, qn, kp2 a o haL ho, r⟩
      · obtain ⟨mc, hns, hnn⟩ := hl1
        exact ⟨mc, hns.at' fun o e => kp2 _ o (Ne.symm noStat) e, hnn⟩
  · intro hsz
    obtain ⟨H', ys, s0, m, os1, hb1, hok, ns, ph, keep, un, q⟩ := hp
    dsimp only
    refine wpAny_execs_nil ?_
    have I0 := Inv.refit I hN hi hj hkr hkf hnc n0 ns ph keep
    exact ⟨_, H', I0.call' (ch := []) os1 (un.trans (Un.kept hk)) (hok.kept hk) (allBare_setGen hb1 rfl) (fun b z => by simp at z), hQ ys H' q⟩
end R49
set_option Elab.async false
set_option linter.all false
set_option maxRecDepth 100000
set_option maxHeartbeats 1000000
/-! R8f: a generator def that may be called; the rule for the consumer's for. -/
namespace R49
open PySem PySem.Spec PyProof.Rows L2 GenW

structure CalG (P : Program) (w : World) (K : PySem.W.Frag) (mg : Str → Option Value) (base : Heap) (k : Nat) (d : Df) (ps : List Str) (sp : SpW) : Prop where
  ex : ∃ fd, GFn2 P w K mg base k (d.at_ K) fd ps sp ∧ L2.Binds K fd ps []
  kp : PySem.W.keepIn K (.ref (d.at_ K)) = true
theorem CalG.of {P : Program} {w : World} {K : PySem.W.Frag} {mg : Str → Option Value} {base : Heap} {k : Nat} {d : Df} {ps N : List Str} {sp : SpW} (T : Txt K mg) (hd : d ∈ dfs) (S : GScope N ps (defScope d.st)) (hnc : ∀ n, cellsFrom n (defScope d.st).names [] = [])
    (hb : ∀ (kV doc pm : Value) (an : Option Addr) (cdv ct : Value) (us : List Value), us.length = ps.length → bindArgs (PySem.W.fnOf d.name d.qual (defArgs d.st) (defBody d.st) (defScope d.st) .none kV doc pm an cdv ct) ⟨us, []⟩ = pure (ps.zip us))
    (len : ∀ vs H Q, sp vs H Q → vs.length = ps.length)
    (hbody : ∀ (cdv : Value) (A : Around) (outer : List Env) (s : Shared) (H : Hp) (vs : List V) (Q : List V → Hp → Prop) (pn : List (Addr × Obj)) (L : Addr) (Φ : Ph), Room k (A.deeper (envOfC d.qual (defScope d.st) s.heap.objs.size (d.at_ K) cdv)) → sp vs H Q →
      ∃ t, GSs2 (gcx2 P w K mg base N d.qual (defScope d.st) (d.at_ K) cdv A outer s H pn) L Φ (defBody d.st) t ∧ t { nx := fun ys _ H' => Q ys H', rt := fun ys v H' => v = .non ∧ Q ys H' } [] (start N vs) H) : CalG P w K mg base (k + 1) d ps sp := by
  obtain ⟨fd, F⟩ := T.fn d hd
  have hbn := F.bindsN hb
  have kp := F.kp
  obtain ⟨oc, od, dV, kV, doc, pm, an, cdv, ct, osl, e, lk, hcd, _, _⟩ := F.ex
  subst e
  exact ⟨⟨_, gfn2_of lk hcd S hnc len fun A outer s H vs Q pn L Φ hr h => hbody cdv A outer s H vs Q pn L Φ hr h, hbn⟩, kp⟩

def tForG (i j : Nat) (sp : SpW) (ta : TA) : TS := fun D σ H => ta σ H fun vs H1 => sp vs H1 fun ys H2 => D.nx (finS i j σ ys) H2

theorem ps_forG {X : Cx} {k i j : Nat} {d : Df} {ps : List Str} {sp : SpW} {x rx fy : Str} {e : Expr} {es : List Expr} {ta : TA} {p0 pos' p1 p2 p3 p4 pos : Pos}
    (c : CalG X.prog X.w X.K X.mg X.base k d ps sp) (hr : Room (k + 1) X.A) (hm : X.mg x = some (.ref (d.at_ X.K))) (ha : PA X (e :: es) ta)
    (hstk : X.stack = X.env :: X.outer) (hfr : X.env.frame = some X.env.locals) (hN : X.N.Nodup) (hi : X.N[i]? = some rx) (hj : X.N[j]? = some fy) (hne : rx ≠ fy)
    (hkr : X.env.kindOf rx = some .local) (hkf : X.env.kindOf fy = some .local) (hdb : (rx == ("__debug__" : Str)) = false)
    (hsw : swapsWith (.Name rx p3) (some (.Name fy p2)) p4.line X.env = pure false) (hnc : ∀ x c, X.env.cells.lookup x = some c → False)
    (hg : Gl X x := by rfl) (hxb : (x == ("__debug__" : Str)) = false := by decide) (he : starEach (e :: es) X.env = (false, eval e X.env) :: starEach es X.env := by rfl) (hpl : (backTo pos' (starEach es X.env)).any (·.1) = false := by rfl) :
    PS X (.For (.Name rx p1) (.Call (.Name x p0) (e :: es) [] pos') [.Assign [.Name fy p2] (.Name rx p3) p4] [] pos) (tForG i j sp ta) := by
  obtain ⟨⟨fd, F, hb⟩, hk⟩ := c
  refine ⟨fun pins s σ H D I h => ?_⟩
  refine wpAny_For ?_ (by intro _; rfl)
  refine wpAny_Call_Name_kw (ld_glob I hg hm ?_ hxb)
  refine PySem.W.callWith_K (h₀ := X.base) I.ok.mod.kin hk (thn (ha.run pos' pins s σ H _ I h) fun us s1 ⟨vs, H1, I1, r, q⟩ => ⟨I1.kIn, ?_⟩) he hpl
  obtain ⟨m0, n0, _⟩ := id I1.loc
  have hLs : X.env.locals ∈ frs X.stack := by
    rw [hstk]
    unfold frs
    rw [List.filterMap_cons, hfr]
    exact List.mem_cons_self
  have hl2 : us.length = ps.length := by rw [← r.length]; exact F.len _ _ _ q
  refine wpAny_call (codeAny_mono (F.run X.A X.stack s1 H1 ⟨us, []⟩ us vs _ X.env.locals (PhO rx fy m0) m0 (hr.mono (Nat.le_succ _)) I1.env0 (by
    have z := hb s1 us I1.kIn (by simpa using hl2)
    simpa using z) r q hLs n0 ⟨fun _ _ _ => rfl, rfl, rfl⟩) fun r' s' hq => ?_)
  cases r' with
  | error e => exact False.elim hq
  | ok fl =>
    cases fl with
    | ret u => exact consume hN hi hj hne hkr hkf hdb hsw hnc hr I1 n0 hq fun _ _ z => z
    | next => exact False.elim hq
    | brk => exact False.elim hq
    | cont => exact False.elim hq
end R49
namespace R49
open PySem PySem.Spec PyProof.Rows L2 GenW
section
variable {X : Cx} {L : Addr} {Φ : Ph} {st : Stmt} {rest : List Stmt}
theorem gs2_ps' {t : TS} (_ : PS (XF X X.s_0) st t) (h : ∀ s0, PS (XF X s0) st t) : GS2 X L Φ st (tPlain t) := gs2_ps h
theorem gs2_yield' {e : Expr} {yp pos : Pos} {te : TE} (_ : PE (XF X X.s_0) e te) (he : ∀ s0, PE (XF X s0) e te) (hco : X.env.scope.isCoroutine = false := by rfl) (hi : interactive X.env = false := by rfl) : GS2 X L Φ (.Expr (.Yield (some e) yp) pos) (tGYield te) := gs2_yield he hco hi
theorem gs2_for' {tg iter : Expr} {body : List Stmt} {wi : TI} {g : TG} {tb : TGn} {pos : Pos} (_ : PI (XF X X.s_0) tg iter wi) (_ : PG (XF X X.s_0) tg g) (hi : ∀ s0, PI (XF X s0) tg iter wi) (hg : ∀ s0, PG (XF X s0) tg g) (hb : GSs2 X L Φ body tb)
    (hs : ∀ x, foldedSetIterable iter X.env x = pure x := by intro _; rfl) : GS2 X L Φ (.For tg iter body [] pos) (tGFor wi g tb) := gs2_for hi hg hb hs
end
end R49
set_option Elab.async false
set_option linter.all false
set_option maxRecDepth 100000
set_option maxHeartbeats 4000000
namespace R49
open PySem PySem.Spec PyProof.Rows L2 GenW
/-
0=upper 1=lower 2=course 3=is_whole 4=kind
0=upper 1=lower 2=course 3=found 4=rows
0=order 1=value 2=rows
0=order 1=course 2=upper 3=lower
-/
/-! ### the rows along a course -/
def runR (u l : List Str) (ks : List Bool) : List Str × List Str := ks.foldl (fun r k => ledR r.1 r.2 k) (u, l)
theorem runR_snoc (u l : List Str) (ks : List Bool) (k : Bool) : runR u l (ks ++ [k]) = ledR (runR u l ks).1 (runR u l ks).2 k := by
  unfold runR
  rw [List.foldl_append]
  rfl
theorem runR_rows {u l : List Str} (R : Rows u l) (ks : List Bool) : Rows (runR u l ks).1 (runR u l ks).2 := by
  unfold runR
  induction ks generalizing u l with
  | nil => exact R
  | cons k ks ih => exact ih (rows_led R k).1
theorem runR_places {u l : List Str} (R : Rows u l) (ks : List Bool) : K49.placesOf (runR u l ks).1 (runR u l ks).2 = K49.run (K49.placesOf u l) ks := by
  unfold runR
  induction ks generalizing u l with
  | nil => rfl
  | cons k ks ih =>
    have h := ih (rows_led R k).1
    rw [(rows_led R k).2.1] at h
    exact h
theorem runR_perm {u l : List Str} (R : Rows u l) (ks : List Bool) : (runR u l ks).1.Perm u := by
  unfold runR
  induction ks generalizing u l with
  | nil => exact List.Perm.refl _
  | cons k ks ih => exact (ih (rows_led R k).1).trans (rows_led R k).2.2
theorem forG_it {J : It} {n : Nat} {G : Hp → Prop} {Y : Nat → Hp → V → Hp → Prop} (w : Walk J n G Y) {g : TG} {tb : TGn} {D : GEnds} {ys : List V} {σ : L2.St} {H : Hp} (Pv : Nat → List V → L2.St → Hp → Prop) (h0 : Pv 0 ys σ H) (hG : ∀ i ys σ H, i ≤ n → Pv i ys σ H → G H)
    (hs : ∀ i x ys σ H H', i < n → Pv i ys σ H → Y i H x H' → g x σ H' fun σ2 H2 => tb { D with nx := Pv (i + 1), ct := Pv (i + 1), bk := D.nx } ys σ2 H2) (hd : ∀ ys σ H, Pv n ys σ H → D.nx ys σ H) :
    ∃ W : Nat → Nat → List V → L2.St → Hp → Prop, (∃ m, W 0 m ys σ H) ∧ ∀ i m ys σ H, W i m ys σ H →
      (J.stop i H ∧ D.nx ys σ H) ∨ (J.go i H ∧ ∃ N : List V → L2.St → Hp → Prop, (∀ ys' σ' H', N ys' σ' H' → ∃ m', m' < m ∧ W (i + 1) m' ys' σ' H') ∧ ∀ x H', J.yld i H x H' → g x σ H' fun σ2 H2 => tb { D with nx := N, ct := N, bk := D.nx } ys σ2 H2) := by
  refine ⟨fun i m ys σ H => m = n - i ∧ i ≤ n ∧ Pv i ys σ H, ⟨n, by simp, Nat.zero_le _, h0⟩, ?_⟩
  rintro i m ys σ H ⟨rfl, hi, p⟩
  have q := hG i ys σ H hi p
  by_cases hlt : i < n
  · exact .inr ⟨w.goes i H hlt q, Pv (i + 1), fun ys' σ' H' p' => ⟨n - (i + 1), by omega, rfl, hlt, p'⟩, fun x H' y => hs i x ys σ H H' hlt p (w.yields i H x H' hlt q y)⟩
  · have e : i = n := by omega
    subst e
    exact .inl ⟨w.stops H q, hd ys σ H p⟩
section
variable {P : Program} {w : World} {K : PySem.W.Frag} {mg : Str → Option Value} {base : Heap}
theorem sc_rows_along : GScope ["upper", "lower", "course", "is_whole", "kind"] ["upper", "lower", "course"] (defScope dAlong.st) := ⟨rfl, rfl, rfl, by decide +kernel, rfl, by decide +kernel, by decide +kernel⟩
/-- the pair at t is the rows behind ks -/
def PairAt (H : Hp) (t : Addr) (u l : List Str) : Prop := ∃ x y, H t = some (.tup [.ref x, .ref y]) ∧ H x = some (.tup (sV u)) ∧ H y = some (.tup (sV l))
theorem PairAt.same {H H' : Hp} {t : Addr} {u l : List Str} (h : PairAt H t u l) (s : Same H H') : PairAt H' t u l := by
  obtain ⟨x, y, h1, h2, h3⟩ := h
  exact ⟨x, y, s _ _ h1, s _ _ h2, s _ _ h3⟩
def spAlong : SpW := fun vs H Q => ∃ a b c u l ks, vs = [.ref a, .ref b, .ref c] ∧ H a = some (.tup (sV u)) ∧ H b = some (.tup (sV l)) ∧ H c = some (.tup (kW ks)) ∧ Rows u l ∧ ks.length ≤ 4000 ∧
  ∀ H' ys t, Same H H' → ys.getLast? = some (.ref t) → PairAt H' t (runR u l ks).1 (runR u l ks).2 → Q ys H'
theorem ok_rows_along (T : Txt K mg) : CalG P w K mg base 3 dAlong ["upper", "lower", "course"] spAlong := by
  have C_are_whole_rows := ok_are_whole_rows (P := P) (w := w) (base := base) T
  have C_led_rows := ok_led_rows (P := P) (w := w) (base := base) T
  refine CalG.of T (List.mem_of_getElem? (i := 29) rfl) sc_rows_along (fun _ => rfl) (fun _ _ _ _ _ _ us hl => match us, hl with | [_, _, _], _ => rfl) (fun vs H Q h => ?_) (fun cdv A outer st0 H vs Q pn L Φ hr h => ?_)
  · obtain ⟨a, b, c, u, l, ks, rfl, _⟩ := h
    rfl
  · obtain ⟨a, b, c, u, l, ks, rfl, ea, eb, ec, R, hk, q⟩ := h
    refine ⟨_, (gss2_cons (gs2_ps' (ps_set (i := 3) sc_rows_along.nd rfl (Or.inl rfl) (pe_cal C_are_whole_rows (hr.mono (by decide)) (T.g "are_whole_rows") (pa_cons (pv 0) (pa_cons (pv 1) pa_nil)))) fun s0 => (ps_set (i := 3) sc_rows_along.nd rfl (Or.inl rfl) (pe_cal C_are_whole_rows (hr.mono (by decide)) (T.g "are_whole_rows") (pa_cons (pv 0) (pa_cons (pv 1) pa_nil)))))
      (gss2_cons (gs2_yield' (pe_tup (pa_cons (pv 0) (pa_cons (pv 1) pa_nil))) fun s0 => (pe_tup (pa_cons (pv 0) (pa_cons (pv 1) pa_nil))))
      (gss2_cons (gs2_for' (pi_tup (pv 2)) (pg_name (i := 4) sc_rows_along.nd rfl (Or.inl rfl)) (fun s0 => (pi_tup (pv 2))) (fun s0 => (pg_name (i := 4) sc_rows_along.nd rfl (Or.inl rfl)))
      (gss2_cons (gs2_ps' (ps_if (pt_not (pt_val (pv 3))) pss_never pss_nil) fun s0 => ps_if (pt_not (pt_val (pv 3))) pss_never pss_nil)
      (gss2_cons (gs2_ps' (ps_asg (pe_cal C_led_rows (hr.mono (by decide)) (T.g "led_rows") (pa_cons (pv 0) (pa_cons (pv 1) (pa_cons (pv 4) pa_nil)))) (pg_tup rfl (pgs_cons (pg_name (i := 0) sc_rows_along.nd rfl (Or.inl rfl)) (pgs_cons (pg_name (i := 1) sc_rows_along.nd rfl (Or.inl rfl)) pgs_nil)))) fun s0 => (ps_asg (pe_cal C_led_rows (hr.mono (by decide)) (T.g "led_rows") (pa_cons (pv 0) (pa_cons (pv 1) (pa_cons (pv 4) pa_nil)))) (pg_tup rfl (pgs_cons (pg_name (i := 0) sc_rows_along.nd rfl (Or.inl rfl)) (pgs_cons (pg_name (i := 1) sc_rows_along.nd rfl (Or.inl rfl)) pgs_nil)))))
      (gss2_cons (gs2_ps' (ps_set (i := 3) sc_rows_along.nd rfl (Or.inl rfl) (pe_or (pe_cmpR op_ne (pv 4) (pe_gs (T.s "EVEN" "even")) (nomark _)) (pe_one (pe_cal C_are_whole_rows (hr.mono (by decide)) (T.g "are_whole_rows") (pa_cons (pv 0) (pa_cons (pv 1) pa_nil)))))) fun s0 => (ps_set (i := 3) sc_rows_along.nd rfl (Or.inl rfl) (pe_or (pe_cmpR op_ne (pv 4) (pe_gs (T.s "EVEN" "even")) (nomark _)) (pe_one (pe_cal C_are_whole_rows (hr.mono (by decide)) (T.g "are_whole_rows") (pa_cons (pv 0) (pa_cons (pv 1) pa_nil)))))))
      (gss2_cons (gs2_yield' (pe_tup (pa_cons (pv 0) (pa_cons (pv 1) pa_nil))) fun s0 => (pe_tup (pa_cons (pv 0) (pa_cons (pv 1) pa_nil))))
      gss2_nil)))))
      gss2_nil))), ?_⟩
    have big := size_big
    refine ⟨.ref a, rfl, .ref b, rfl, a, b, u, l, rfl, ea, eb, R, fun H1 s1 => ?_⟩
    refine ⟨by show 0 < _; omega, .ref a, rfl, .ref b, rfl, by show 2 ≤ _; omega, fun t0 nt0 => ?_⟩
    have s2 : Same H (upd H1 t0 (.tup [.ref a, .ref b])) := s1.trans (same_upd nt0)
    have e2 : (upd H1 t0 (.tup [.ref a, .ref b])) t0 = some (.tup [.ref a, .ref b]) := upd_same
    generalize upd H1 t0 (.tup [.ref a, .ref b]) = H2 at s2 e2
    refine ⟨.ref c, rfl, c, rfl, ⟨_, SqT.of (s2 _ _ ec)⟩, forG_it (walk_tup (xs := kW ks)) (fun i ys σ H3 => ∃ a' b' y4 t, σ = [some (.ref a'), some (.ref b'), some (.ref c), some (.bl true), y4] ∧ Same H H3 ∧ H3 a' = some (.tup (sV (runR u l (ks.take i)).1)) ∧ H3 b' = some (.tup (sV (runR u l (ks.take i)).2)) ∧ ys.getLast? = some (.ref t) ∧ PairAt H3 t (runR u l (ks.take i)).1 (runR u l (ks.take i)).2 ∧ ys.length = i + 1)
      ⟨a, b, none, t0, rfl, s2, s2 _ _ ea, s2 _ _ eb, rfl, ⟨a, b, e2, s2 _ _ ea, s2 _ _ eb⟩, rfl⟩ (fun i ys σ H3 _ hp => ?_) (fun i v ys σ H3 H4 hi hp y => ?_) (fun ys σ H3 hp => ?_)⟩
    · obtain ⟨_, _, _, _, _, sm, _⟩ := hp
      exact SqT.of (sm _ _ ec)
    · obtain ⟨a', b', y4, t, rfl, sm, ea', eb', hy, pa, hl⟩ := hp
      obtain ⟨rfl, hv⟩ := y
      obtain ⟨k, hk2, rfl⟩ := kW_at hv
      have et : ks.take (i + 1) = ks.take i ++ [k] := by rw [List.take_add_one, hk2]; rfl
      have Ri := runR_rows R (ks.take i)
      generalize hw : runR u l (ks.take i) = ww at *
      obtain ⟨wu, wl⟩ := ww
      have e1 : runR u l (ks.take (i + 1)) = ledR wu wl k := by rw [et, runR_snoc, hw]
      have hki : i < ks.length := by rw [kW_len] at hi; exact hi
      refine ⟨_, rfl, _, rfl, itF rfl ?_⟩
      refine ⟨_, rfl, _, rfl, _, rfl, a', b', wu, wl, k, rfl, ea', eb', Ri, fun H5 t5 x5 y5 s5 e5 ex5 ey5 => ?_⟩
      refine ⟨t5, _, rfl, SqT.of e5, rfl, _, _, rfl, _, _, rfl, rfl, ?_⟩
      refine ⟨_, rfl, rfl, _, rfl, itT (by cases k <;> decide) ?_⟩
      refine ⟨by omega, _, rfl, _, rfl, by show 2 ≤ _; omega, fun t6 nt6 => ?_⟩
      have s6 : Same H5 (upd H5 t6 (.tup [.ref x5, .ref y5])) := same_upd nt6
      have s7 := (sm.trans s5).trans s6
      refine ⟨x5, y5, _, t6, rfl, s7, ?_, ?_, ?_, ?_, ?_⟩
      · rw [e1]; exact s6 _ _ ex5
      · rw [e1]; exact s6 _ _ ey5
      · rw [List.getLast?_append]; rfl
      · rw [e1]; exact ⟨x5, y5, upd_same, s6 _ _ ex5, s6 _ _ ey5⟩
      · rw [List.length_append]; show ys.length + 1 = _; omega
    · obtain ⟨a', b', y4, t, rfl, sm, ea', eb', hy, pa, hl⟩ := hp
      rw [kW_len, List.take_length] at pa
      exact q _ _ t sm hy pa
theorem sc_rows_behind : FnScope ["upper", "lower", "course", "found", "rows"] ["upper", "lower", "course"] (defScope dBehind.st) := ⟨rfl, rfl, rfl, by decide +kernel, rfl, by decide +kernel, by decide +kernel⟩
def spBehind : Sp := fun vs H Q _ => ∃ a b c u l ks, vs = [.ref a, .ref b, .ref c] ∧ H a = some (.tup (sV u)) ∧ H b = some (.tup (sV l)) ∧ H c = some (.tup (kW ks)) ∧ Rows u l ∧ ks.length ≤ 4000 ∧
  ∀ H' t, Same H H' → PairAt H' t (runR u l ks).1 (runR u l ks).2 → Q (.ref t) H'
theorem ok_rows_behind (T : Txt K mg) : Cal P w K mg base 5 dBehind ["upper", "lower", "course"] spBehind := by
  have C_rows_along := ok_rows_along (P := P) (w := w) (base := base) T
  refine Cal.of T (List.mem_of_getElem? (i := 30) rfl) sc_rows_behind (fun _ _ _ _ _ _ us hl => match us, hl with | [_, _, _], _ => rfl) (fun vs H Q E h => ?_) (fun cdv A outer st0 H vs Q E hr h => ?_)
  · obtain ⟨a, b, c, u, l, ks, rfl, _⟩ := h
    rfl
  · obtain ⟨a, b, c, u, l, ks, rfl, ea, eb, ec, R, hk, q⟩ := h
    refine ⟨_, PSs.nox (pss_cons (ps_set (i := 3) sc_rows_behind.nd rfl (Or.inl rfl) pe_non)
      (pss_cons (ps_forG (i := 4) (j := 3) C_rows_along (hr.mono (by decide)) (T.g "rows_along") (pa_cons (pv 0) (pa_cons (pv 1) (pa_cons (pv 2) pa_nil))) rfl rfl sc_rows_behind.nd rfl rfl (by decide) rfl rfl (by decide) (by rfl) (fun _ _ h => nomatch (show (none : Option Addr) = some _ from h)))
      (pss_one (ps_ret (pv 3))))), ?_⟩
    refine ⟨.ref a, rfl, .ref b, rfl, .ref c, rfl, a, b, c, u, l, ks, rfl, ea, eb, ec, R, hk, fun H' ys t s1 hy pa => ?_⟩
    unfold finS
    dsimp only
    rw [hy]
    exact ⟨_, rfl, q H' t s1 pa⟩
theorem sc_require_course : FnScope ["order", "value", "rows"] ["order", "value"] (defScope dReqCourse.st) := ⟨rfl, rfl, rfl, by decide +kernel, rfl, by decide +kernel, by decide +kernel⟩
def spReqCourse (K : PySem.W.Frag) : Sp := fun vs H Q _ => ∃ a c u l ks, vs = [.ref a, .ref c] ∧ OrdAt K H a u l ∧ H c = some (.tup (kW ks)) ∧ ks.length ≤ 4000 ∧
  ∀ H' t, Same H H' → PairAt H' t (runR u l ks).1 (runR u l ks).2 → Q (.ref t) H'
theorem ok_require_course (T : Txt K mg) : Cal P w K mg base 6 dReqCourse ["order", "value"] (spReqCourse K) := by
  have C_rows_behind := ok_rows_behind (P := P) (w := w) (base := base) T
  have C_is_kinds := ok_is_kinds (P := P) (w := w) (base := base) T
  have C_above := ok_above (P := P) (w := w) (base := base) T
  have C_below := ok_below (P := P) (w := w) (base := base) T
  refine Cal.of T (List.mem_of_getElem? (i := 31) rfl) sc_require_course (fun _ _ _ _ _ _ us hl => match us, hl with | [_, _], _ => rfl) (fun vs H Q E h => ?_) (fun cdv A outer st0 H vs Q E hr h => ?_)
  · obtain ⟨a, c, u, l, ks, rfl, _⟩ := h
    rfl
  · obtain ⟨a, c, u, l, ks, rfl, O, ec, hk, q⟩ := h
    refine ⟨_, PSs.nox (pss_cons (ps_set (i := 2) sc_require_course.nd rfl (Or.inl rfl) (pe_ifExp (pt_val (pe_cal C_is_kinds (hr.mono (by decide)) (T.g "is_kinds") (pa_cons (pv 1) pa_nil))) (pe_cal C_rows_behind (hr.mono (by decide)) (T.g "rows_behind") (pa_cons (SlX.pe_propSl (CX := CX0) (E := E0) (pv 0) T.cls (T.pat "above" (by decide)).1 (T.pat "above" (by decide)).2.1 (T.pat "above" (by decide)).2.2.1 (T.pat "above" (by decide)).2.2.2 C_above.r (hr.mono (by decide)) (fun _ _ _ _ z => z.elim)) (pa_cons (SlX.pe_propSl (CX := CX0) (E := E0) (pv 0) T.cls (T.pat "below" (by decide)).1 (T.pat "below" (by decide)).2.1 (T.pat "below" (by decide)).2.2.1 (T.pat "below" (by decide)).2.2.2 C_below.r (hr.mono (by decide)) (fun _ _ _ _ z => z.elim)) (pa_cons (pv 1) pa_nil)))) pe_non))
      (pss_cons (ps_if (pt_cmpR op_isN (pv 2) pe_non (nomark _))
      pss_never
      pss_nil)
      (pss_one (ps_ret (pv 2))))), ?_⟩
    obtain ⟨R, dx, vs, up, lo, pl, ua, S, _⟩ := id O
    refine ⟨_, rfl, c, ks, rfl, ec, hk, fun H1 s1 => ⟨_, rfl, itT rfl ?_⟩⟩
    have O1 := same_ord s1 O
    have S1 := same_slt s1 S
    refine ⟨.ref a, rfl, a, dx, vs, rfl, S1, a, u, l, rfl, O1, fun r1 p1 => ⟨.ref a, rfl, a, dx, vs, rfl, S1, a, u, l, rfl, O1, fun r2 p2 => ⟨_, rfl, r1, r2, c, u, l, ks, rfl, p1, p2, s1 _ _ ec, R, hk, fun H2 t s2 pa => ?_⟩⟩⟩
    refine ⟨_, rfl, rfl, _, rfl, itF rfl ⟨_, rfl, q H2 t (s1.trans s2) pa⟩⟩
theorem sc_order_behind : FnScope ["order", "course", "upper", "lower"] ["order", "course"] (defScope dOrdBehind.st) := ⟨rfl, rfl, rfl, by decide +kernel, rfl, by decide +kernel, by decide +kernel⟩
def spOrdBehind (K : PySem.W.Frag) : Sp := fun vs H Q _ => ∃ a c u l ks, vs = [.ref a, .ref c] ∧ OrdAt K H a u l ∧ H c = some (.tup (kW ks)) ∧ ks.length ≤ 4000 ∧
  ∀ H' r, Same H H' → OrdAt K H' r (runR u l ks).1 (runR u l ks).2 → Q (.ref r) H'
theorem ok_order_behind (T : Txt K mg) : Cal P w K mg base 7 dOrdBehind ["order", "course"] (spOrdBehind K) := by
  have C_require_order := ok_require_order (P := P) (w := w) (base := base) T
  have C_require_course := ok_require_course (P := P) (w := w) (base := base) T
  have C_init := ok_init (P := P) (w := w) (base := base) T
  refine Cal.of T (List.mem_of_getElem? (i := 32) rfl) sc_order_behind (fun _ _ _ _ _ _ us hl => match us, hl with | [_, _], _ => rfl) (fun vs H Q E h => ?_) (fun cdv A outer st0 H vs Q E hr h => ?_)
  · obtain ⟨a, c, u, l, ks, rfl, _⟩ := h
    rfl
  · obtain ⟨a, c, u, l, ks, rfl, O, ec, hk, q⟩ := h
    refine ⟨_, PSs.nox (pss_cons (ps_expr (pe_cal C_require_order (hr.mono (by decide)) (T.g "require_order") (pa_cons (pv 0) pa_nil)))
      (pss_cons (ps_asg (pe_cal C_require_course (hr.mono (by decide)) (T.g "require_course") (pa_cons (pv 0) (pa_cons (pv 1) pa_nil))) (pg_tup rfl (pgs_cons (pg_name (i := 2) sc_order_behind.nd rfl (Or.inl rfl)) (pgs_cons (pg_name (i := 3) sc_order_behind.nd rfl (Or.inl rfl)) pgs_nil))))
      (pss_one (ps_ret (pe_order T C_init (hr.mono (by decide)) (pa_cons (pv 2) (pa_cons (pv 3) pa_nil))))))), ?_⟩
    refine ⟨.ref a, rfl, a, u, l, rfl, O, ?_⟩
    refine ⟨.ref a, rfl, _, rfl, a, c, u, l, ks, rfl, O, ec, hk, fun H1 t s1 pa => ?_⟩
    obtain ⟨x, y, et, ex, ey⟩ := pa
    refine ⟨t, _, rfl, SqT.of et, rfl, _, _, rfl, _, _, rfl, rfl, ?_⟩
    refine ⟨_, rfl, _, rfl, fun x dx hx hdx ne => init_of (runR_rows O.1 ks) ex ey (fun H' y sm o => q H' y (s1.trans sm) o) x dx hx hdx ne⟩
end
end R49
set_option Elab.async false
set_option linter.all false
set_option maxRecDepth 100000
set_option maxHeartbeats 4000000
namespace R49
open PySem PySem.Spec PyProof.Rows L2
/-
0=_law_script 1=_law_spot 2=_law_cell 3=_law_left
0=_law_dice_here 1=_law_total 2=_law_found 3=_law_one 4=_law_two
-/
/-! ### the dice -/
def DiceAt (H : Hp) (d : Addr) : Prop := ∃ a b c : Int, H d = some (.lst [.int a, .int b, .int c])
theorem DiceAt.same {H H' : Hp} {d : Addr} (s : Same H H') (h : DiceAt H d) : DiceAt H' d := by
  obtain ⟨a, b, c, e⟩ := h
  exact ⟨a, b, c, s _ _ e⟩
theorem DiceAt.x {H : Hp} {d : Addr} (h : DiceAt H d) : IsX H d := by
  obtain ⟨a, b, c, e⟩ := h
  exact isX_lst e
theorem Kd.same {d : Addr} {H H1 H2 : Hp} (a : Kd d H H1) (b : Same H1 H2) : Kd d H H2 := a.trans (Same.kd b)
section
variable {P : Program} {w : World} {K : PySem.W.Frag} {mg : Str → Option Value} {base : Heap}
theorem sc__law_dice : FnScope ["_law_script", "_law_spot", "_law_cell", "_law_left"] ["_law_script", "_law_spot"] (defScope dDice.st) := ⟨rfl, rfl, rfl, by decide +kernel, rfl, by decide +kernel, by decide +kernel⟩
def spDice (K : PySem.W.Frag) : Sp := fun vs H Q _ => ∃ (s : Addr) (xs : List Int) (n : Nat), vs = [.ref s, .int (n : Nat)] ∧ SqL K H s (xs.map V.int) ∧ n ≤ 1 ∧ ∀ H' d, Same H H' → H d = none → DiceAt H' d → Q (.ref d) H'
theorem ok_law_dice (T : Txt K mg) : Cal P w K mg base 1 dDice ["_law_script", "_law_spot"] (spDice K) := by
  refine Cal.of T (List.mem_of_getElem? (i := 33) rfl) sc__law_dice (fun _ _ _ _ _ _ us hl => match us, hl with | [_, _], _ => rfl) (fun vs H Q E h => ?_) (fun cdv A outer st0 H vs Q E hr h => ?_)
  · obtain ⟨s, xs, n, rfl, _⟩ := h
    rfl
  · obtain ⟨s, xs, n, rfl, es, hn, q⟩ := h
    refine ⟨_, PSs.nox (pss_cons (ps_set (i := 2) sc__law_dice.nd rfl (Or.inl rfl) (pe_ifExp (pt_cmpR op_lt (pv 1) (pe_callB call_len_seq (by rfl) (T.f "len") PySem.boot_len (pa_cons (pv 0) pa_nil)) (nomark _)) (pe_callTy call_int1 (by rfl) (T.f "int") (by decide +kernel) (pa_cons (pe_ix ix_list (pv 0) (pv 1) (fun _ _ => rfl)) pa_nil)) (pe_op op_add (pe_op op_mul pe_int (pv 1)) pe_int)))
      (pss_cons (ps_set (i := 3) sc__law_dice.nd rfl (Or.inl rfl) (pe_op op_mod (pe_callB (call_max2 rfl) (by rfl) (T.f "max") (by decide +kernel) (pa_cons pe_int (pa_cons (pe_op op_sub (pe_callB call_abs (by rfl) (T.f "abs") (by decide +kernel) (pa_cons (pv 2) pa_nil)) (pe_op op_pow pe_int pe_int)) pa_nil))) (pe_op op_mulW (pe_op op_pow pe_int pe_int) (pe_op op_pow pe_int pe_int))))
      (pss_one (ps_ret (pe_lst (pa_cons (pv 3) (pa_cons (pe_op op_add (pe_op op_add (pe_op op_add (pe_op op_mul (pe_op op_mod (pe_callB call_abs (by rfl) (T.f "abs") (by decide +kernel) (pa_cons (pv 2) pa_nil)) pe_int) pe_int) (pe_op op_mul pe_int (pv 1))) (pe_op op_mul pe_int (pe_callTy call_int1 (by rfl) (T.f "int") (by decide +kernel) (pa_cons (pe_cmpR op_lt (pv 2) pe_int (nomark _)) pa_nil)))) pe_int) (pa_cons pe_int pa_nil)))))))), ?_⟩
    have big := size_big
    have hlen : ((xs.map V.int).length : Int) = (xs.length : Nat) := by rw [List.length_map]
    have fin : ∀ (i : Int), True := fun _ => trivial
    have c64 : ∀ i : Int, 0 ≤ i → i < 1000 → -(2 ^ 64) < i ∧ i < 2 ^ 64 := fun i h1 h2 => ⟨by omega, by omega⟩
    refine ⟨_, rfl, .ref s, rfl, s, _, rfl, .inl es, _, _, rfl, rfl, _, rfl, itE (fun e => ?_) (fun e => ?_)⟩
    · have hlt := of_decide_eq_true e
      have hlt' : n < (xs.map V.int).length := by omega
      have hx : (xs.map V.int)[n]? = some (.int (xs[n]'(by simpa using hlt'))) := by
        rw [List.getElem?_map, List.getElem?_eq_getElem (by simpa using hlt')]
        rfl
      generalize (xs[n]'(by simpa using hlt')) = cell at hx
      refine ⟨_, rfl, _, rfl, s, _, _, _, rfl, rfl, es, atI_nat hx, .inl ⟨_, rfl, ?_⟩⟩
      refine ⟨_, rfl, _, rfl, _, _, rfl, rfl, ⟨by decide, by decide, by decide⟩, _, _, rfl, rfl, _, _, rfl, _, _, rfl, rfl, ⟨by decide, by decide, by decide⟩, _, _, rfl, rfl, ⟨by decide, by decide, by decide⟩, _, _, rfl, rfl, by show (_ : Nat) < _; decide +kernel, _, _, rfl, rfl, by show (0 : Int) < _; decide +kernel, ?_⟩
      refine ⟨_, rfl, _, rfl, _, rfl, _, _, rfl, rfl, by show (0 : Int) < _; decide, _, _, rfl, rfl, .inr (by decide), _, rfl, _, _, rfl, rfl, .inl (by decide), _, _, rfl, rfl, _, rfl, _, _, rfl, rfl, .inr ⟨_, rfl, _, _, rfl, rfl, .inl (by decide), _, _, rfl, rfl, _, _, rfl, rfl, by show 3 ≤ _; omega, fun p np => q _ p (same_upd np) np ⟨_, _, _, upd_same⟩⟩⟩
    · refine ⟨_, rfl, _, _, rfl, rfl, .inl (by decide), _, _, rfl, rfl, ?_⟩
      generalize (67 * ((n : Nat) : Int) + 19) = cell
      refine ⟨_, rfl, _, rfl, _, _, rfl, rfl, ⟨by decide, by decide, by decide⟩, _, _, rfl, rfl, _, _, rfl, _, _, rfl, rfl, ⟨by decide, by decide, by decide⟩, _, _, rfl, rfl, ⟨by decide, by decide, by decide⟩, _, _, rfl, rfl, by show (_ : Nat) < _; decide +kernel, _, _, rfl, rfl, by show (0 : Int) < _; decide +kernel, ?_⟩
      refine ⟨_, rfl, _, rfl, _, rfl, _, _, rfl, rfl, by show (0 : Int) < _; decide, _, _, rfl, rfl, .inr (by decide), _, rfl, _, _, rfl, rfl, .inl (by decide), _, _, rfl, rfl, _, rfl, _, _, rfl, rfl, .inr ⟨_, rfl, _, _, rfl, rfl, .inl (by decide), _, _, rfl, rfl, _, _, rfl, rfl, by show 3 ≤ _; omega, fun p np => q _ p (same_upd np) np ⟨_, _, _, upd_same⟩⟩⟩
theorem sc__law_roll : FnScope ["_law_dice_here", "_law_total", "_law_found", "_law_one", "_law_two"] ["_law_dice_here", "_law_total"] (defScope dRoll.st) := ⟨rfl, rfl, rfl, by decide +kernel, rfl, by decide +kernel, by decide +kernel⟩
def spRoll : Sp := fun vs H Q _ => ∃ (d : Addr) (n : Nat), vs = [.ref d, .int (n : Nat)] ∧ DiceAt H d ∧ 0 < n ∧ n ≤ 1000 ∧ ∀ H' (r : Nat), Kd d H H' → DiceAt H' d → r < n → Q (.int (r : Nat)) H'
theorem ok_law_roll (T : Txt K mg) : Cal P w K mg base 1 dRoll ["_law_dice_here", "_law_total"] spRoll := by
  refine Cal.of T (List.mem_of_getElem? (i := 34) rfl) sc__law_roll (fun _ _ _ _ _ _ us hl => match us, hl with | [_, _], _ => rfl) (fun vs H Q E h => ?_) (fun cdv A outer st0 H vs Q E hr h => ?_)
  · obtain ⟨d, n, rfl, _⟩ := h
    rfl
  · obtain ⟨d, n, rfl, D, h0, h1, q⟩ := h
    refine ⟨_, PSs.nox (pss_cons (ps_if (pt_cmpR op_gt (pe_ix ix_list (pv 0) pe_int (fun _ _ => rfl)) pe_int (nomark _))
      (pss_cons (ps_set (i := 2) sc__law_roll.nd rfl (Or.inl rfl) (pe_op op_mod (pe_callTy call_int1 (by rfl) (T.f "int") (by decide +kernel) (pa_cons (pe_ix ix_list (pv 0) pe_int (fun _ _ => rfl)) pa_nil)) (pv 1)))
      (pss_cons (ps_asg (pe_op op_fdivW (pe_ix ix_list (pv 0) pe_int (fun _ _ => rfl)) (pv 1)) (pg_sub (pv 0) pe_int set_list))
      (pss_one (ps_ret (pv 2)))))
      pss_nil)
      (pss_cons (ps_asg (pe_op op_add (pe_ix ix_list (pv 0) pe_int (fun _ _ => rfl)) pe_int) (pg_sub (pv 0) pe_int set_list))
      (pss_cons (ps_set (i := 3) sc__law_roll.nd rfl (Or.inl rfl) (pe_op op_mod (pe_callTy call_int1 (by rfl) (T.f "int") (by decide +kernel) (pa_cons (pe_op op_add (pe_ix ix_list (pv 0) pe_int (fun _ _ => rfl)) (pe_op op_mul pe_int (pe_ix ix_list (pv 0) pe_int (fun _ _ => rfl)))) pa_nil)) pe_int))
      (pss_cons (ps_set (i := 4) sc__law_roll.nd rfl (Or.inl rfl) (pe_op op_add (pe_op op_mul (pe_op op_mod (pe_callTy call_int1 (by rfl) (T.f "int") (by decide +kernel) (pa_cons (pe_op op_add (pe_op op_mul (pv 3) (pv 3)) (pe_op op_mul pe_int (pe_ix ix_list (pv 0) pe_int (fun _ _ => rfl)))) pa_nil)) pe_int) pe_int) (pv 3)))
      (pss_one (ps_ret (pe_op op_mod (pe_callTy call_int1 (by rfl) (T.f "int") (by decide +kernel) (pa_cons (pe_op op_fdivW (pv 4) pe_int) pa_nil)) (pv 1)))))))), ?_⟩
    have big := size_big
    obtain ⟨a, b, c, e⟩ := D
    have hn : (0 : Int) < (n : Nat) := by omega
    have hw : CDivW 0 (n : Nat) := wide_div (b := 64) hn (by simp; omega) (by decide) (by decide)
    have md : ∀ (x : Int), ∃ r : Nat, x % (n : Nat) = (r : Nat) ∧ r < n := fun x => ⟨(x % (n : Nat)).toNat, by
      have := Int.emod_nonneg x (Int.ne_of_gt hn)
      omega, by
      have h1 := Int.emod_nonneg x (Int.ne_of_gt hn)
      have h2 := Int.emod_lt_of_pos x hn
      omega⟩
    have fin : ∀ (x : Int) (H' : Hp), Kd d H H' → DiceAt H' d → Q (.int (x % (n : Nat))) H' := fun x H' k D' => by
      obtain ⟨r, h1, h2⟩ := md x
      rw [h1]
      exact q _ r k D' h2
    refine ⟨_, rfl, d, _, _, _, rfl, rfl, SqL.of e, rfl, _, _, rfl, rfl, _, rfl, itE (fun _ => ?_) (fun _ => ?_)⟩
    · refine ⟨_, rfl, d, _, _, _, rfl, rfl, SqL.of e, rfl, .inl ⟨_, rfl, _, rfl, _, _, rfl, rfl, hn, ?_⟩⟩
      refine ⟨_, rfl, d, _, _, _, rfl, rfl, SqL.of e, rfl, _, rfl, _, _, rfl, rfl, ⟨hw.1, hw.2⟩, _, rfl, d, _, _, _, rfl, rfl, e, rfl, ?_⟩
      exact ⟨_, rfl, fin _ _ (upd_kd _ _ _) ⟨_, _, _, upd_same⟩⟩
    · refine ⟨_, rfl, d, _, _, _, rfl, rfl, SqL.of e, rfl, _, _, rfl, rfl, _, rfl, d, _, _, _, rfl, rfl, e, rfl, ?_⟩
      have e1 : (upd H d (.lst ([V.int a, V.int b, V.int c].set 2 (.int (c + 1))))) d = some (.lst [.int a, .int b, .int (c + 1)]) := upd_same
      have k1 : Kd d H (upd H d (.lst ([V.int a, V.int b, V.int c].set 2 (.int (c + 1))))) := upd_kd _ _ _
      show tSeq _ _ _ _ (upd H d (.lst ([V.int a, V.int b, V.int c].set 2 (.int (c + 1)))))
      generalize upd H d (.lst ([V.int a, V.int b, V.int c].set 2 (.int (c + 1)))) = H1 at e1 k1
      generalize c + 1 = c at e1
      refine ⟨_, rfl, d, _, _, _, rfl, rfl, SqL.of e1, rfl, _, rfl, d, _, _, _, rfl, rfl, SqL.of e1, rfl, _, _, rfl, rfl, .inl (by decide), _, _, rfl, rfl, .inl ⟨_, rfl, _, _, rfl, rfl, by show (0 : Int) < _; decide, ?_⟩⟩
      have o1 := Int.emod_nonneg (b + 32452843 * c) (b := 2305843009213693951) (by decide)
      have o2 := Int.emod_lt_of_pos (b + 32452843 * c) (b := 2305843009213693951) (by decide)
      generalize (b + 32452843 * c) % 2305843009213693951 = one at o1 o2
      refine ⟨_, rfl, _, rfl, _, _, rfl, rfl, .inl ⟨by omega, by omega⟩, _, rfl, d, _, _, _, rfl, rfl, SqL.of e1, rfl, _, _, rfl, rfl, .inl (by decide), _, _, rfl, rfl, .inl ⟨_, rfl, _, _, rfl, rfl, by show (0 : Int) < _; decide, _, _, rfl, rfl, .inr (by decide), _, rfl, _, _, rfl, rfl, ?_⟩⟩
      refine ⟨_, rfl, _, _, rfl, rfl, ⟨by decide, by decide +kernel⟩, .inl ⟨_, rfl, _, rfl, _, _, rfl, rfl, hn, fin _ _ k1 ⟨_, _, _, e1⟩⟩⟩
end
end R49
set_option Elab.async false
set_option linter.all false
set_option maxRecDepth 100000
set_option maxHeartbeats 4000000
namespace R49
open PySem PySem.Spec PyProof.Rows L2
/-
0=_law_dice_here 1=_law_items
0=_law_dice_here 1=_law_items 2=_law_left 3=_law_found 4=_law_turn
0=_law_dice_here 1=_law_times
-/
theorem kd_fresh {d p : Addr} {H H1 : Hp} {o : HO} (k : Kd d H H1) (n : H p = none) : Kd d H (upd H1 p o) := fun b x hb e => by
  have hne : b ≠ p := fun q => by rw [q, n] at e; cases e
  rw [upd_ne hne]
  exact k b x hb e
theorem Kd.none {d p : Addr} {H H1 : Hp} (k : Kd d H H1) (hp : p ≠ d) (n : H1 p = Option.none) : H p = Option.none := by
  cases q : H p with
  | none => rfl
  | some o =>
    rw [k p o hp q] at n
    cases n
theorem dice_upd {H : Hp} {d p : Addr} {o : HO} (D : DiceAt H d) (h : p ≠ d) : DiceAt (upd H p o) d := by
  obtain ⟨a, b, c, e⟩ := D
  exact ⟨a, b, c, by rw [upd_ne (Ne.symm h)]; exact e⟩
theorem dice_ne {H : Hp} {d p : Addr} (D : DiceAt H d) (n : H p = none) : p ≠ d := fun e => by
  obtain ⟨a, b, c, e2⟩ := D
  rw [← e, n] at e2
  cases e2
theorem era_perm {α : Type} : ∀ (l : List α) (j : Nat) (h : j < l.length), (l[j] :: l.eraseIdx j).Perm l
  | a :: l, 0, _ => List.Perm.refl _
  | a :: l, j + 1, h => by
    have h' : j < l.length := by simpa using h
    exact (List.Perm.swap a l[j] (l.eraseIdx j)).trans ((era_perm l j h').cons a)
section
variable {P : Program} {w : World} {K : PySem.W.Frag} {mg : Str → Option Value} {base : Heap}
theorem sc__law_pick : FnScope ["_law_dice_here", "_law_items"] ["_law_dice_here", "_law_items"] (defScope dPick.st) := ⟨rfl, rfl, rfl, by decide +kernel, rfl, by decide +kernel, by decide +kernel⟩
def spPick (K : PySem.W.Frag) : Sp := fun vs H Q _ => ∃ (d l : Addr) (xs : List V), vs = [.ref d, .ref l] ∧ DiceAt H d ∧ l ≠ d ∧ H l = some (.lst xs) ∧ 0 < xs.length ∧ xs.length ≤ 1000 ∧ ∀ H' x, Kd d H H' → DiceAt H' d → x ∈ xs → Q x H'
theorem ok_law_pick (T : Txt K mg) : Cal P w K mg base 2 dPick ["_law_dice_here", "_law_items"] (spPick K) := by
  have C_law_roll := ok_law_roll (P := P) (w := w) (base := base) T
  refine Cal.of T (List.mem_of_getElem? (i := 35) rfl) sc__law_pick (fun _ _ _ _ _ _ us hl => match us, hl with | [_, _], _ => rfl) (fun vs H Q E h => ?_) (fun cdv A outer st0 H vs Q E hr h => ?_)
  · obtain ⟨d, l, xs, rfl, _⟩ := h
    rfl
  · obtain ⟨d, l, xs, rfl, D, hld, el, h0, h1, q⟩ := h
    refine ⟨_, PSs.nox (pss_one (ps_ret (pe_ix ix_list (pv 1) (pe_cal C_law_roll (hr.mono (by decide)) (T.g "_law_roll") (pa_cons (pv 0) (pa_cons (pe_callB call_len_seq (by rfl) (T.f "len") PySem.boot_len (pa_cons (pv 1) pa_nil)) pa_nil))) (fun _ _ => rfl)))), ?_⟩
    refine ⟨_, rfl, _, rfl, _, rfl, l, _, rfl, .inl (SqL.of el), d, xs.length, rfl, D, h0, h1, fun H1 r k1 D1 hr => ?_⟩
    have hx : xs[r]? = some xs[r] := List.getElem?_eq_getElem hr
    exact ⟨l, _, _, _, rfl, rfl, SqL.of (k1 _ _ hld el), atI_nat hx, q H1 _ k1 D1 (List.getElem_mem hr)⟩
theorem sc__law_mixed : FnScope ["_law_dice_here", "_law_items", "_law_left", "_law_found", "_law_turn"] ["_law_dice_here", "_law_items"] (defScope dMixed.st) := ⟨rfl, rfl, rfl, by decide +kernel, rfl, by decide +kernel, by decide +kernel⟩
def spMixed (K : PySem.W.Frag) : Sp := fun vs H Q _ => ∃ (d l : Addr) (xs : List V), vs = [.ref d, .ref l] ∧ DiceAt H d ∧ l ≠ d ∧ H l = some (.lst xs) ∧ xs.length ≤ 1000 ∧ ∀ H' p ys, Kd d H H' → DiceAt H' d → H p = none → p ≠ d → H' p = some (.lst ys) → ys.Perm xs → Q (.ref p) H'
theorem ok_law_mixed (T : Txt K mg) : Cal P w K mg base 2 dMixed ["_law_dice_here", "_law_items"] (spMixed K) := by
  have C_law_roll := ok_law_roll (P := P) (w := w) (base := base) T
  refine Cal.of T (List.mem_of_getElem? (i := 36) rfl) sc__law_mixed (fun _ _ _ _ _ _ us hl => match us, hl with | [_, _], _ => rfl) (fun vs H Q E h => ?_) (fun cdv A outer st0 H vs Q E hr h => ?_)
  · obtain ⟨d, l, xs, rfl, _⟩ := h
    rfl
  · obtain ⟨d, l, xs, rfl, D, hld, el, h1, q⟩ := h
    refine ⟨_, PSs.nox (pss_cons (ps_par (i := 2) (j := 3) (by rfl) sc__law_mixed.nd rfl rfl (by decide) rfl rfl (pa_cons (pe_callTy call_list_of (by rfl) (T.f "list") (by decide +kernel) (pa_cons (pv 1) pa_nil)) (pa_cons (pe_lst pa_nil) pa_nil)) (by rfl))
      (pss_cons (ps_for PassesOwn.never rfl (pi_range1 (by rfl) (T.f "range") (pa_cons (pe_callB call_len_seq (by rfl) (T.f "len") PySem.boot_len (pa_cons (pv 1) pa_nil)) pa_nil)) (pg_name (i := 4) sc__law_mixed.nd rfl (Or.inl rfl))
      (pss_one (ps_expr (pe_bm PySem.F.plainAttrs_list PySem.F.slot_list_append PySem.F.type_list_append mt_append (pv 3) (pa_cons (pe_bm PySem.F.plainAttrs_list PySem.F.slot_list_pop PySem.F.type_list_pop mt_popAt (pv 2) (pa_cons (pe_cal C_law_roll (hr.mono (by decide)) (T.g "_law_roll") (pa_cons (pv 0) (pa_cons (pe_callB call_len_seq (by rfl) (T.f "len") PySem.boot_len (pa_cons (pv 2) pa_nil)) pa_nil))) pa_nil)) pa_nil)))))
      (pss_one (ps_ret (pv 3))))), ?_⟩
    have big := size_big
    refine ⟨_, rfl, l, xs, rfl, .inl (SqL.of el), fun lf nlf => ⟨Nat.zero_le _, fun fo nfo => ⟨_, _, rfl, ?_⟩⟩⟩
    have hlfd : lf ≠ d := dice_ne D nlf
    have D1 := dice_upd (o := .lst xs) D hlfd
    have hfod : fo ≠ d := dice_ne D1 nfo
    have D2 := dice_upd (o := .lst []) D1 hfod
    have hlf : lf ≠ fo := fun e => by rw [← e, upd_same] at nfo; cases nfo
    have nfo' : H fo = none := by rw [upd_ne (Ne.symm hlf)] at nfo; exact nfo
    have k2 : Kd d H (upd (upd H lf (.lst xs)) fo (.lst [])) := kd_fresh (kd_fresh (Kd.refl d H) nlf) nfo'
    have e1 : (upd (upd H lf (.lst xs)) fo (.lst [])) lf = some (.lst xs) := by rw [upd_ne hlf, upd_same]
    have e2 : (upd (upd H lf (.lst xs)) fo (.lst [])) fo = some (.lst []) := upd_same
    generalize upd (upd H lf (.lst xs)) fo (.lst []) = H2 at k2 D2 e1 e2
    refine ⟨_, rfl, l, _, rfl, .inl (SqL.of (k2 _ _ hld el)), _, rfl, by omega, by omega, for_it walk_range (fun i σ H3 => ∃ t ls fs, σ = [some (.ref d), some (.ref l), some (.ref lf), some (.ref fo), t] ∧ Kd d H H3 ∧ DiceAt H3 d ∧ H3 lf = some (.lst ls) ∧ H3 fo = some (.lst fs) ∧ (fs ++ ls).Perm xs ∧ fs.length = i)
      ⟨none, xs, [], rfl, k2, D2, e1, e2, List.Perm.refl _, rfl⟩ (fun _ _ _ _ _ => trivial) (fun i v σ H3 H4 hi hp y => ?_) (fun σ H3 hp => ?_)⟩
    · obtain ⟨t, ls, fs, rfl, k3, D3, e3, f3, pm, hf⟩ := hp
      obtain ⟨rfl, rfl⟩ := y
      have hi' : i < xs.length := hi
      have hl : fs.length + ls.length = xs.length := by rw [← List.length_append]; exact pm.length_eq
      refine ⟨_, rfl, .inl ⟨rfl, _, SqL.of f3⟩, _, rfl, .inl ⟨rfl, _, SqL.of e3⟩, _, rfl, _, rfl, lf, _, rfl, .inl (SqL.of e3), d, ls.length, rfl, D3, by omega, by omega, fun H5 r k5 D5 hr => ?_⟩
      have hx : ls[r]? = some ls[r] := List.getElem?_eq_getElem hr
      obtain ⟨j, hj, hv, hjl, b1, b2⟩ := atI_get (atI_nat hx)
      have e5 := k5 _ _ hlfd e3
      have f5 := k5 _ _ hfod f3
      refine ⟨lf, ls, _, j, ls[r], rfl, rfl, e5, by omega, by omega, hj, hv, ?_⟩
      have nlf' : H lf = none := nlf
      have k6 : Kd d H (upd H5 lf (.lst (ls.eraseIdx j))) := kd_fresh (k3.trans k5) nlf'
      have D6 := dice_upd (o := .lst (ls.eraseIdx j)) D5 hlfd
      have f6 : (upd H5 lf (.lst (ls.eraseIdx j))) fo = some (.lst fs) := by rw [upd_ne (Ne.symm hlf)]; exact f5
      refine ⟨fo, fs, _, rfl, rfl, f6, by omega, _, _, _, rfl, kd_fresh k6 nfo', dice_upd D6 hfod, by rw [upd_ne hlf, upd_same], upd_same, ?_, ?_⟩
      · have hjv : ls[j] = ls[r] := by
          rw [List.getElem?_eq_getElem hjl] at hv
          exact Option.some.inj hv
        rw [← hjv, List.append_assoc]
        exact (List.Perm.append_left fs (era_perm ls j hjl)).trans pm
      · rw [List.length_append]; show fs.length + 1 = _; omega
    · obtain ⟨t, ls, fs, rfl, k3, D3, e3, f3, pm, hf⟩ := hp
      have hf' : fs.length = xs.length := hf
      have hl : fs.length + ls.length = xs.length := by rw [← List.length_append]; exact pm.length_eq
      have hl0 : ls = [] := List.eq_nil_of_length_eq_zero (by omega)
      rw [hl0, List.append_nil] at pm
      exact ⟨_, rfl, q H3 fo fs k3 D3 nfo' hfod f3 pm⟩
theorem sc__law_names_drawn : FnScope ["_law_dice_here", "_law_times"] ["_law_dice_here", "_law_times"] (defScope dNamesDrawn.st) := ⟨rfl, rfl, rfl, by decide +kernel, rfl, by decide +kernel, by decide +kernel⟩
def spNamesDrawn : Sp := fun vs H Q _ => ∃ (d : Addr) (n : Nat), vs = [.ref d, .int (n : Nat)] ∧ DiceAt H d ∧ n ≤ 10 ∧ ∀ H' p ns, Kd d H H' → DiceAt H' d → H p = none → p ≠ d → H' p = some (.lst (sV ns)) → ns.length = n → ns.Nodup → (∀ x ∈ ns, okName x) → Q (.ref p) H'
def ten : List Str := ["a", "b", "c", "d", "e", "x", "aa", "ab", "zz", "zzzzzzzz"]
theorem ten_nd : ten.Nodup := by decide +kernel
theorem ten_ok : ∀ x ∈ ten, okName x := by
  show ∀ x ∈ ten, 1 ≤ x.length ∧ x.length ≤ 8 ∧ ∀ c ∈ x.cps.toList, c ∈ letters.cps.toList
  decide +kernel
def unS : V → Str
  | .str x => x
  | _ => ""
theorem unS_sV (u : List Str) : (sV u).map unS = u := by
  induction u with
  | nil => rfl
  | cons a u ih => exact congrArg (a :: ·) ih
theorem perm_sV {ys : List V} {u : List Str} (h : ys.Perm (sV u)) : ∃ ns, ys = sV ns ∧ ns.Perm u := by
  refine ⟨ys.map unS, ?_, by have := h.map unS; rwa [unS_sV] at this⟩
  have key : ∀ (l : List V), (∀ x ∈ l, ∃ z, x = .str z) → l = sV (l.map unS) := by
    intro l
    induction l with
    | nil => intro _; rfl
    | cons a l ih =>
      intro hl
      obtain ⟨z, rfl⟩ := hl a (by simp)
      exact congrArg (V.str z :: ·) (ih fun x hx => hl x (by simp [hx]))
  refine key ys fun x hx => ?_
  have := h.mem_iff.mp hx
  unfold sV at this
  obtain ⟨z, _, rfl⟩ := List.mem_map.mp this
  exact ⟨z, rfl⟩
theorem ok_law_names_drawn (T : Txt K mg) : Cal P w K mg base 3 dNamesDrawn ["_law_dice_here", "_law_times"] spNamesDrawn := by
  have C_law_mixed := ok_law_mixed (P := P) (w := w) (base := base) T
  refine Cal.of T (List.mem_of_getElem? (i := 37) rfl) sc__law_names_drawn (fun _ _ _ _ _ _ us hl => match us, hl with | [_, _], _ => rfl) (fun vs H Q E h => ?_) (fun cdv A outer st0 H vs Q E hr h => ?_)
  · obtain ⟨d, n, rfl, _⟩ := h
    rfl
  · obtain ⟨d, n, rfl, D, h1, q⟩ := h
    refine ⟨_, PSs.nox (pss_one (ps_ret (pe_slice sl_list (pe_cal C_law_mixed (hr.mono (by decide)) (T.g "_law_mixed") (pa_cons (pv 0) (pa_cons (pe_lst (pa_cons pe_str (pa_cons pe_str (pa_cons pe_str (pa_cons pe_str (pa_cons pe_str (pa_cons pe_str (pa_cons pe_str (pa_cons pe_str (pa_cons pe_str (pa_cons pe_str pa_nil))))))))))) pa_nil))) po_none (po_some (pv 1))))), ?_⟩
    have big := size_big
    refine ⟨_, rfl, by show 10 ≤ _; omega, fun p np => ?_⟩
    have hpd := dice_ne D np
    refine ⟨d, p, sV ten, rfl, dice_upd D hpd, hpd, upd_same, by decide, fun H1 r ys k1 D1 nr hrd er pm => ?_⟩
    obtain ⟨ns, rfl, pn⟩ := perm_sV pm
    have hln : ns.length = 10 := pn.length_eq
    have k0 : Kd d H H1 := (kd_fresh (o := .lst (sV ten)) (Kd.refl d H) np).trans k1
    refine ⟨_, rfl, _, rfl, r, _, rfl, SqL.of er, fun p2 np2 => ?_⟩
    have hp2 := dice_ne D1 np2
    refine q _ p2 (ns.take n) (kd_fresh k0 (k0.none hp2 np2)) (dice_upd D1 hp2) (k0.none hp2 np2) hp2 ?_ ?_ ?_ ?_
    · rw [upd_same, cut_to _ _ (by rw [sV_len]; omega)]
      simp [sV, List.map_take]
    · rw [List.length_take]; omega
    · exact (pn.nodup_iff.mpr ten_nd).sublist (List.take_sublist _ _)
    · exact fun x hx => ten_ok x (pn.mem_iff.mp (List.mem_of_mem_take hx))
end
end R49
set_option Elab.async false
set_option linter.all false
set_option maxRecDepth 100000
set_option maxHeartbeats 4000000
namespace R49
open PySem PySem.Spec PyProof.Rows L2
/-
0=_law_upper 1=_law_lower 2=_law_cuts 3=_law_k
-/
theorem sub_back {α : Type} [BEq α] [LawfulBEq α] : ∀ (a b : List α), a.Nodup → (∀ x ∈ a, x ∈ b) → b.length ≤ a.length → ∀ x ∈ b, x ∈ a
  | [], b, _, _, hl, x, hx => by
    have : b = [] := List.eq_nil_of_length_eq_zero (Nat.le_zero.mp hl)
    rw [this] at hx
    cases hx
  | y :: a, b, nd, hs, hl, x, hx => by
    by_cases e : x = y
    · subst e; exact List.mem_cons_self
    have hy : y ∈ b := hs y List.mem_cons_self
    have nd' := List.nodup_cons.mp nd
    refine List.mem_cons_of_mem _ (sub_back a (b.erase y) nd'.2 (fun z hz => ?_) ?_ x ((List.mem_erase_of_ne e).mpr hx))
    · have hzy : z ≠ y := fun q => nd'.1 (q ▸ hz)
      exact (List.mem_erase_of_ne hzy).mpr (hs z (List.mem_cons_of_mem _ hz))
    · rw [List.length_erase_of_mem hy]
      have : b.length ≤ a.length + 1 := by simpa using hl
      omega
theorem shLI (p : List Nat) : SeqAt.shaped (.list (dI p)) = true := by
  obtain ⟨a, b⟩ := layI p
  simp [SeqAt.shaped, PyData.canLay0, PyData.depth, a]
  omega
section
variable {P : Program} {w : World} {K : PySem.W.Frag} {mg : Str → Option Value} {base : Heap}
theorem sc__law_is_whole : FnScope ["_law_upper", "_law_lower", "_law_cuts", "_law_k"] ["_law_upper", "_law_lower"] (defScope dLWhole.st) := ⟨rfl, rfl, rfl, by decide +kernel, rfl, by decide +kernel, by decide +kernel⟩
def spLWhole : Sp := fun vs H Q _ => ∃ (a b : Addr) (u l : List Str), vs = [.ref a, .ref b] ∧ H a = some (.lst (sV u)) ∧ H b = some (.lst (sV l)) ∧ K49.RowsOk u l ∧ 2 ≤ u.length ∧ u.length ≤ 5 ∧ ∀ H', Same H H' → Q (.bl (K49.lawWhole u l)) H'
def cutsN (u l : List Str) (i : Nat) : List Nat := ((List.range i).filter fun j => K49.setEq (u.take (j + 1)) (l.take (j + 1))).map fun j => j + 1
theorem ok_law_is_whole (T : Txt K mg) : Cal P w K mg base 1 dLWhole ["_law_upper", "_law_lower"] spLWhole := by
  refine Cal.of T (List.mem_of_getElem? (i := 38) rfl) sc__law_is_whole (fun _ _ _ _ _ _ us hl => match us, hl with | [_, _], _ => rfl) (fun vs H Q E h => ?_) (fun cdv A outer st0 H vs Q E hr h => ?_)
  · obtain ⟨a, b, u, l, rfl, _⟩ := h
    rfl
  · obtain ⟨a, b, u, l, rfl, ea, eb, R, h2, h5, q⟩ := h
    refine ⟨_, PSs.nox (pss_cons (ps_setLc (i := 2) (own := [("_law_k", 3)]) (g := (gName 3)) (tt := tTest (tOp (rSetEq P w) (tCB (rSetTx P w K) (tCons (L2.tSl (rSlL K) (tVar 0) tNoPart (tPart (tVar 3))) tNil)) (tCB (rSetTx P w K) (tCons (L2.tSl (rSlL K) (tVar 1) tNoPart (tPart (tVar 3))) tNil)))) rfl sc__law_is_whole.nd rfl rfl (sw_true rfl rfl rfl (by decide +kernel)) (pi_range2 (by rfl) (T.f "range") (pa_cons pe_int (pa_cons (pe_callB call_len_seq (by rfl) (T.f "len") PySem.boot_len (pa_cons (pv 0) pa_nil)) pa_nil))) (blkOk_by (N := ["_law_upper", "_law_lower", "_law_cuts", "_law_k"]) (sc := defScope dLWhole.st) (by decide +kernel)) (fun _ _ _ _ _ => (pg_name (i := 3) sc__law_is_whole.nd rfl (Or.inl rfl))) (fun _ _ _ _ _ => (pts_one (pt_cmpR (op_setEq hr.units0) (pe_callTy (cr_setTx rfl) (by rfl) (T.f "set") (by decide +kernel) (pa_cons (pe_slice sl_list (pv 0) po_none (po_some (pv 3))) pa_nil)) (pe_callTy (cr_setTx rfl) (by rfl) (T.f "set") (by decide +kernel) (pa_cons (pe_slice sl_list (pv 1) po_none (po_some (pv 3))) pa_nil)) (nomark _)))) (fun _ _ _ _ _ => (pv 3)))
      (pss_one (ps_ret (pe_and (pe_cmpR op_gt (pe_callB call_len_seq (by rfl) (T.f "len") PySem.boot_len (pa_cons (pv 0) pa_nil)) pe_int (nomark _)) (pe_one (pe_cmpR (op_eqD hr.units) (pv 2) (pe_lst pa_nil) (nomark _))))))), ?_⟩
    have big := size_big
    have hul := sV_len u
    have hll : l.length = u.length := R.len
    refine ⟨_, rfl, a, _, rfl, .inl (SqL.of ea), 1, _, rfl, ⟨by omega, by omega, by omega, by omega⟩, fun D nD => lc_it walk_range (LcP H D fun i => iV (cutsN u l i)) (LcP.start nD rfl) (fun _ _ _ _ => trivial) (fun i v H3 H4 hi p y => ?_) (fun H1 p1 => ?_)⟩
    · obtain ⟨rfl, rfl⟩ := y
      have hi' : i + 1 < u.length := by
        have z : i < (((sV u).length : Int) - 1).toNat := hi
        rw [hul] at z
        omega
      have c0 : (1 : Int) + (i : Nat) = ((i + 1 : Nat) : Int) := by omega
      have ca : cutV (sV u) none (some (1 + (i : Nat))) = sV (u.take (i + 1)) := by
        rw [c0, cut_to _ _ (by rw [sV_len]; omega)]
        simp [sV, List.map_take]
      have cb : cutV (sV l) none (some (1 + (i : Nat))) = sV (l.take (i + 1)) := by
        rw [c0, cut_to _ _ (by rw [sV_len]; omega)]
        simp [sV, List.map_take]
      have ndu : (u.take (i + 1)).Nodup := R.nd.sublist (List.take_sublist _ _)
      have ndl : (l.take (i + 1)).Nodup := R.ndl.sublist (List.take_sublist _ _)
      have lu : (u.take (i + 1)).length = i + 1 := by rw [List.length_take]; omega
      have ll : (l.take (i + 1)).length = i + 1 := by rw [List.length_take]; omega
      refine ⟨rfl, _, rfl, _, rfl, _, rfl, a, _, rfl, SqL.of (p.1 _ _ ea), fun t1 nt1 => ?_⟩
      have s1 : Same H4 (upd H4 t1 (.lst (cutV (sV u) none (some (1 + (i : Nat)))))) := same_upd nt1
      refine ⟨t1, u.take (i + 1), rfl, SqL.of (by rw [upd_same, ca]; rfl), ndu, by omega, fun z1 nz1 => ?_⟩
      have s2 := s1.trans (same_upd (o := SetK P w z1 (fun k => ((u.take (i + 1)).map (Sum.inr : Str → L2.Key)).any fun x => decide (x = k)) (u.take (i + 1)).length) nz1)
      have e2 : (upd (upd H4 t1 (.lst (cutV (sV u) none (some (1 + (i : Nat)))))) z1 (SetK P w z1 (fun k => ((u.take (i + 1)).map (Sum.inr : Str → L2.Key)).any fun x => decide (x = k)) (u.take (i + 1)).length)) z1 = some (SetK P w z1 (fun k => ((u.take (i + 1)).map (Sum.inr : Str → L2.Key)).any fun x => decide (x = k)) (u.take (i + 1)).length) := upd_same
      generalize (upd (upd H4 t1 (.lst (cutV (sV u) none (some (1 + (i : Nat)))))) z1 (SetK P w z1 (fun k => ((u.take (i + 1)).map (Sum.inr : Str → L2.Key)).any fun x => decide (x = k)) (u.take (i + 1)).length)) = H6 at s2 e2
      refine ⟨_, rfl, _, rfl, _, rfl, b, _, rfl, SqL.of (s2 _ _ (p.1 _ _ eb)), fun t2 nt2 => ?_⟩
      have s3 : Same H6 (upd H6 t2 (.lst (cutV (sV l) none (some (1 + (i : Nat)))))) := same_upd nt2
      refine ⟨t2, l.take (i + 1), rfl, SqL.of (by rw [upd_same, cb]; rfl), ndl, by omega, fun z2 nz2 => ?_⟩
      have s4 := s3.trans (same_upd (o := SetK P w z2 (fun k => ((l.take (i + 1)).map (Sum.inr : Str → L2.Key)).any fun x => decide (x = k)) (l.take (i + 1)).length) nz2)
      have len2 : (l.take (i + 1)).length = (u.take (i + 1)).length := by omega
      refine ⟨z1, z2, _, _, (u.take (i + 1)).length, rfl, rfl, s4 _ _ e2, by rw [upd_same, len2], fun r hr => ⟨_, rfl, ?_⟩⟩
      have hrs : r = K49.setEq (u.take (i + 1)) (l.take (i + 1)) := by
        rw [Bool.eq_iff_iff, hr]
        unfold K49.setEq
        constructor
        · intro h
          have sub : ∀ x ∈ u.take (i + 1), x ∈ l.take (i + 1) := fun x hx => by
            have z := h (.inr x) (List.any_eq_true.mpr ⟨.inr x, List.mem_map.mpr ⟨x, hx, rfl⟩, decide_eq_true rfl⟩)
            obtain ⟨y, hy, ey⟩ := List.any_eq_true.mp z
            obtain ⟨y', hy', rfl⟩ := List.mem_map.mp hy
            have := of_decide_eq_true ey
            injection this with this
            exact this ▸ hy'
          have back := sub_back _ _ ndu sub (by omega)
          rw [Bool.and_eq_true]
          exact ⟨List.all_eq_true.mpr fun x hx => decide_eq_true (sub x hx), List.all_eq_true.mpr fun x hx => decide_eq_true (back x hx)⟩
        · intro h k hk
          rw [Bool.and_eq_true] at h
          obtain ⟨y, hy, ey⟩ := List.any_eq_true.mp hk
          obtain ⟨x, hx, rfl⟩ := List.mem_map.mp hy
          have hxl := of_decide_eq_true (List.all_eq_true.mp h.1 x hx)
          exact List.any_eq_true.mpr ⟨.inr x, List.mem_map.mpr ⟨x, hxl, rfl⟩, ey⟩
      rw [hrs]
      have sm := s2.trans s4
      refine itE (fun e => ?_) (fun e => ?_)
      · refine ⟨_, rfl, p.step nD sm ?_ ?_⟩
        · unfold cutsN
          rw [List.range_succ, List.filter_append]
          simp [iV, e]
          omega
        · unfold cutsN iV
          rw [List.length_map, List.length_map]
          have := List.length_filter_le (fun j => K49.setEq (u.take (j + 1)) (l.take (j + 1))) (List.range i)
          rw [List.length_range] at this
          omega
      · refine p.skip sm ?_
        unfold cutsN
        rw [List.range_succ, List.filter_append]
        simp [e]
    have s1 : Same H H1 := p1.1
    have e1 : H1 D = some (.lst (iV (cutsN u l (u.length - 1)))) := by
      have z : H1 D = some (.lst (iV (cutsN u l (((sV u).length : Int) - 1).toNat))) := p1.2
      have hn : (((sV u).length : Int) - 1).toNat = u.length - 1 := by rw [hul]; omega
      rw [hn] at z
      exact z
    refine ⟨_, rfl, a, _, rfl, .inl (SqL.of (s1 _ _ ea)), _, _, rfl, rfl, _, rfl, itT (decide_eq_true (by omega)) ⟨_, rfl, Nat.zero_le _, fun e0 ne0 => ⟨.list (dI (cutsN u l (u.length - 1))), .list [], .lst (SqL.of ((same_upd ne0) _ _ e1)) (dpI _), .lst (SqL.of upd_same) .nil, shLI _, rfl, ?_⟩⟩⟩
    have hq : PyData.eqv (.list (dI (cutsN u l (u.length - 1)))) (.list []) = K49.lawWhole u l := by
      show PyData.eqvAll (dI (cutsN u l (u.length - 1))) (dI []) = _
      rw [eqI, Bool.eq_iff_iff, decide_eq_true_iff]
      unfold K49.lawWhole cutsN
      rw [List.map_eq_nil_iff, List.filter_eq_nil_iff, Bool.and_eq_true, List.all_eq_true]
      constructor
      · exact fun h => ⟨decide_eq_true (by omega), fun i hi => by simpa using h i hi⟩
      · exact fun h i hi => by simpa using h.2 i hi
    show Q (.bl (PyData.eqv (.list (dI (cutsN u l (u.length - 1)))) (.list []))) _
    rw [hq]
    exact q _ (s1.trans (same_upd ne0))
end
end R49
set_option Elab.async false
set_option linter.all false
set_option maxRecDepth 100000
set_option maxHeartbeats 4000000
namespace R49
open PySem PySem.Spec PyProof.Rows L2
/-
0=_law_dice_here 1=_law_times 2=_law_upper 3=_law_lower 4=_law_turn 5=_law_other
-/
section
variable {P : Program} {w : World} {K : PySem.W.Frag} {mg : Str → Option Value} {base : Heap}
theorem sc__law_rows_drawn : FnScope ["_law_dice_here", "_law_times", "_law_upper", "_law_lower", "_law_turn", "_law_other"] ["_law_dice_here", "_law_times"] (defScope dRowsDrawn.st) := ⟨rfl, rfl, rfl, by decide +kernel, rfl, by decide +kernel, by decide +kernel⟩
def spRowsDrawn : Sp := fun vs H Q _ => ∃ (d : Addr) (n : Nat), vs = [.ref d, .int (n : Nat)] ∧ DiceAt H d ∧ 2 ≤ n ∧ n ≤ 5 ∧ ∀ H' t x y u l, Kd d H H' → DiceAt H' d → H' t = some (.tup [.ref x, .ref y]) → H' x = some (.lst (sV u)) → H' y = some (.lst (sV l)) → x ≠ d → y ≠ d → Rows u l → u.length = n → Q (.ref t) H'
theorem ok_law_rows_drawn (T : Txt K mg) : Cal P w K mg base 4 dRowsDrawn ["_law_dice_here", "_law_times"] spRowsDrawn := by
  have C_law_names_drawn := ok_law_names_drawn (P := P) (w := w) (base := base) T
  have C_law_roll := ok_law_roll (P := P) (w := w) (base := base) T
  have C_law_mixed := ok_law_mixed (P := P) (w := w) (base := base) T
  have C_law_is_whole := ok_law_is_whole (P := P) (w := w) (base := base) T
  refine Cal.of T (List.mem_of_getElem? (i := 39) rfl) sc__law_rows_drawn (fun _ _ _ _ _ _ us hl => match us, hl with | [_, _], _ => rfl) (fun vs H Q E h => ?_) (fun cdv A outer st0 H vs Q E hr h => ?_)
  · obtain ⟨d, n, rfl, _⟩ := h
    rfl
  · obtain ⟨d, n, rfl, D, h2, h5, q⟩ := h
    refine ⟨_, PSs.nox (pss_cons (ps_set (i := 2) sc__law_rows_drawn.nd rfl (Or.inl rfl) (pe_cal C_law_names_drawn (hr.mono (by decide)) (T.g "_law_names_drawn") (pa_cons (pv 0) (pa_cons (pv 1) pa_nil))))
      (pss_cons (ps_set (i := 3) sc__law_rows_drawn.nd rfl (Or.inl rfl) (pe_revL (pv 2)))
      (pss_cons (ps_if (pt_cmpR op_gt (pe_cal C_law_roll (hr.mono (by decide)) (T.g "_law_roll") (pa_cons (pv 0) (pa_cons pe_int pa_nil))) pe_int (nomark _))
      (pss_one (ps_for PassesOwn.never rfl (pi_range1 (by rfl) (T.f "range") (pa_cons pe_int pa_nil)) (pg_name (i := 4) sc__law_rows_drawn.nd rfl (Or.inl rfl))
      (pss_cons (ps_set (i := 5) sc__law_rows_drawn.nd rfl (Or.inl rfl) (pe_cal C_law_mixed (hr.mono (by decide)) (T.g "_law_mixed") (pa_cons (pv 0) (pa_cons (pv 2) pa_nil))))
      (pss_one (ps_if (pt_val (pe_cal C_law_is_whole (hr.mono (by decide)) (T.g "_law_is_whole") (pa_cons (pv 2) (pa_cons (pv 5) pa_nil))))
      (pss_one (ps_set (i := 3) sc__law_rows_drawn.nd rfl (Or.inl rfl) (pv 5)))
      pss_nil)))))
      pss_nil)
      (pss_one (ps_ret (pe_tup (pa_cons (pv 2) (pa_cons (pv 3) pa_nil)))))))), ?_⟩
    have big := size_big
    refine ⟨_, rfl, _, rfl, d, n, rfl, D, by omega, fun H1 up u k1 D1 nup hup eu lu ndu oku => ?_⟩
    refine ⟨_, rfl, up, _, rfl, SqL.of eu, fun lo nlo => ?_⟩
    have hlo := dice_ne D1 nlo
    have k2 := kd_fresh (o := .lst (sV u).reverse) k1 (k1.none hlo nlo)
    have D2 := dice_upd (o := .lst (sV u).reverse) D1 hlo
    have eu2 : (upd H1 lo (.lst (sV u).reverse)) up = some (.lst (sV u)) := (same_upd nlo) _ _ eu
    have el2 : (upd H1 lo (.lst (sV u).reverse)) lo = some (.lst (sV u.reverse)) := by rw [upd_same]; simp [sV]
    generalize upd H1 lo (.lst (sV u).reverse) = H2 at k2 D2 eu2 el2
    obtain ⟨Rr, Gr⟩ := K49.good_rev ndu (by omega) (by omega)
    have row : okRow u := ⟨by omega, by omega, ndu, oku⟩
    have R0 : Rows u u.reverse := ⟨Rr, row, Gr⟩
    have fin : ∀ (H3 : Hp) (l : List Str) (lo : Addr) (t o : Option V), Kd d H H3 → DiceAt H3 d → H3 up = some (.lst (sV u)) → H3 lo = some (.lst (sV l)) → lo ≠ d → Rows u l →
        tRet (tTup (tCons (tVar 2) (tCons (tVar 3) tNil))) { nx := fun _ H' => Q .non H', rt := Q } [some (.ref d), some (.int (n : Nat)), some (.ref up), some (.ref lo), t, o] H3 := fun H3 l lo t o k3 D3 e3 f3 hl R => by
      refine ⟨_, rfl, _, rfl, by show 2 ≤ _; omega, fun tp ntp => ?_⟩
      have htp := dice_ne D3 ntp
      exact q _ tp up lo u l (kd_fresh k3 (k3.none htp ntp)) (dice_upd D3 htp) upd_same ((same_upd ntp) _ _ e3) ((same_upd ntp) _ _ f3) hup hl R lu
    refine ⟨_, rfl, d, 4, rfl, D2, by omega, by omega, fun H3 r k3 D3 hr4 => ⟨_, _, rfl, rfl, _, rfl, itE (fun _ => ?_) (fun _ => ?_)⟩⟩
    · refine ⟨_, rfl, by omega, by omega, for_it walk_range (fun i σ H4 => ∃ t o lo l, σ = [some (.ref d), some (.int (n : Nat)), some (.ref up), some (.ref lo), t, o] ∧ Kd d H H4 ∧ DiceAt H4 d ∧ H4 up = some (.lst (sV u)) ∧ H4 lo = some (.lst (sV l)) ∧ lo ≠ d ∧ Rows u l)
        ⟨none, none, lo, u.reverse, rfl, k2.trans k3, D3, k3 _ _ hup eu2, k3 _ _ hlo el2, hlo, R0⟩ (fun _ _ _ _ _ => trivial) (fun i v σ H4 H5 hi hp y => ?_) (fun σ H4 hp => ?_)⟩
      · obtain ⟨t, o, lo, l, rfl, k4, D4, e4, f4, hl, R⟩ := hp
        obtain ⟨rfl, rfl⟩ := y
        refine ⟨_, rfl, _, rfl, d, up, _, rfl, D4, hup, e4, by rw [sV_len]; omega, fun H6 p ys k6 D6 np hpd ep pm => ?_⟩
        obtain ⟨ns, rfl, pn⟩ := perm_sV pm
        have hRo : K49.RowsOk u ns := ⟨ndu, pn⟩
        have e6 := k6 _ _ hup e4
        have f6 := k6 _ _ hl f4
        refine ⟨_, rfl, _, rfl, up, p, u, ns, rfl, e6, ep, hRo, by omega, by omega, fun H7 s7 => ⟨_, rfl, itE (fun ew => ?_) (fun _ => ?_)⟩⟩
        · have R' : Rows u ns := ⟨hRo, row, K49.good_of_law hRo (by omega) (by omega) ew⟩
          exact ⟨_, rfl, _, _, p, ns, rfl, (k4.trans k6).same s7, D6.same s7, s7 _ _ e6, s7 _ _ ep, hpd, R'⟩
        · exact ⟨_, _, lo, l, rfl, (k4.trans k6).same s7, D6.same s7, s7 _ _ e6, s7 _ _ f6, hl, R⟩
      · obtain ⟨t, o, lo, l, rfl, k4, D4, e4, f4, hl, R⟩ := hp
        exact fin H4 l lo t o k4 D4 e4 f4 hl R
    · exact fin H3 _ lo none none (k2.trans k3) D3 (k3 _ _ hup eu2) (k3 _ _ hlo el2) hlo R0
end
end R49
set_option Elab.async false
set_option linter.all false
set_option maxRecDepth 100000
set_option maxHeartbeats 4000000
namespace R49
open PySem PySem.Spec PyProof.Rows L2
/-
0=_law_places 1=_law_kind 2=_law_upper 3=_law_lower 4=_law_at 5=_law_place 6=_law_above 7=_law_below 8=_law_one
-/
theorem same_fresh {H H1 : Hp} {p : Addr} {o : HO} (s : Same H H1) (n : H p = none) : Same H (upd H1 p o) := fun b x e => by
  have hne : b ≠ p := fun q => by rw [q, n] at e; cases e
  rw [upd_ne hne]
  exact s b x e
theorem Same.none {H H1 : Hp} {p : Addr} (s : Same H H1) (n : H1 p = Option.none) : H p = Option.none := by
  cases q : H p with
  | none => rfl
  | some o =>
    rw [s p o q] at n
    cases n
theorem ixN_nat {n x : Nat} (h : x < n) : ixN n (x : Int) = some x := by
  unfold ixN
  rw [if_pos (by omega), if_pos (by omega)]; simp
theorem iV_set (q : List Nat) (x i : Nat) : (iV q).set x (.int (i : Int)) = iV (q.set x i) := by simp [iV, List.map_set]
theorem iV_drop1 (q : List Nat) : (iV q).dropLast = iV q.dropLast := by simp [iV, List.map_dropLast]
theorem iV_ins (q : List Nat) (i x : Nat) : (iV q).take i ++ [.int (x : Int)] ++ (iV q).drop i = iV (K49.insP q i x) := by simp [iV, K49.insP, List.map_take, List.map_drop]
theorem iV_get {q : List Nat} {j x : Nat} (h : q[j]? = some x) : (iV q)[j]? = some (.int (x : Int)) := by
  unfold iV
  rw [List.getElem?_map, h]
  rfl
theorem idx_facts {q : List Nat} {y : Nat} (h : y ∈ q) : flatV (.int (y : Int)) = true ∧ (iV q).all flatV = true ∧ (iV q)[q.idxOf y]? = some (.int (y : Int)) ∧ eqV (.int (y : Int)) (.int (y : Int)) = true ∧
    ∀ (m : Nat) (z' : V), m < q.idxOf y → (iV q)[m]? = some z' → eqV z' (.int (y : Int)) = false := by
  have hj : q.idxOf y < q.length := List.idxOf_lt_length_of_mem h
  refine ⟨rfl, ?_, iV_get (by rw [List.getElem?_eq_getElem hj, List.getElem_idxOf hj]), ?_, fun m z' hm hz => ?_⟩
  · unfold iV; rw [List.all_map]; exact List.all_eq_true.mpr fun _ _ => rfl
  · show ((y : Int) == (y : Int)) = true
    simp
  · obtain ⟨x, hx, rfl⟩ := iV_at hz
    show ((x : Int) == (y : Int)) = false
    have hne : x ≠ y := fun e => by
      have := idx_le (e ▸ hx)
      omega
    exact beq_eq_false_iff_ne.mpr fun h => hne (Int.ofNat.inj h)
section
variable {P : Program} {w : World} {K : PySem.W.Frag} {mg : Str → Option Value} {base : Heap}
theorem sc__law_moved_places : FnScope ["_law_places", "_law_kind", "_law_upper", "_law_lower", "_law_at", "_law_place", "_law_above", "_law_below", "_law_one"] ["_law_places", "_law_kind"] (defScope dMoved.st) := ⟨rfl, rfl, rfl, by decide +kernel, rfl, by decide +kernel, by decide +kernel⟩
theorem ok_law_moved_places (T : Txt K mg) : Cal P w K mg base 1 dMoved ["_law_places", "_law_kind"] spNext := by
  refine Cal.of T (List.mem_of_getElem? (i := 40) rfl) sc__law_moved_places (fun _ _ _ _ _ _ us hl => match us, hl with | [_, _], _ => rfl) (fun vs H Q E h => ?_) (fun cdv A outer st0 H vs Q E hr h => ?_)
  · obtain ⟨a, p, n, k, rfl, _⟩ := h
    rfl
  · obtain ⟨a, p, n, k, rfl, ea, G, q⟩ := h
    refine ⟨_, PSs.nox (pss_cons (ps_asg (pe_tup (pa_cons (pe_listRg rfl (by rfl) (T.f "list") (prg_1 (by rfl) (T.f "range") (pe_callB call_len_seq (by rfl) (T.f "len") PySem.boot_len (pa_cons (pv 0) pa_nil)))) (pa_cons (pe_op op_rep (pe_lst (pa_cons pe_int pa_nil)) (pe_callB call_len_seq (by rfl) (T.f "len") PySem.boot_len (pa_cons (pv 0) pa_nil))) pa_nil))) (pg_tup rfl (pgs_cons (pg_name (i := 2) sc__law_moved_places.nd rfl (Or.inl rfl)) (pgs_cons (pg_name (i := 3) sc__law_moved_places.nd rfl (Or.inr rfl)) pgs_nil))))
      (pss_cons (ps_for PassesOwn.never rfl (pi_enumT (by rfl) (T.f "enumerate") (pa_cons (pv 0) pa_nil)) (pg_tup rfl (pgs_cons (pg_name (i := 4) sc__law_moved_places.nd rfl (Or.inl rfl)) (pgs_cons (pg_name (i := 5) sc__law_moved_places.nd rfl (Or.inl rfl)) pgs_nil)))
      (pss_one (ps_asg (pv 4) (pg_sub (pv 3) (pv 5) set_list))))
      (pss_cons (ps_par (i := 6) (j := 7) (by rfl) sc__law_moved_places.nd rfl rfl (by decide) rfl rfl (pa_cons (pe_ix ix_list (pv 2) (pe_un un_neg pe_int) (fun _ _ => rfl)) (pa_cons (pe_ix ix_list (pv 3) (pe_un un_neg pe_int) (fun _ _ => rfl)) pa_nil)) (by rfl))
      (pss_cons (ps_if (pt_cmpR op_eq (pv 1) pe_str (nomark _))
      (pss_cons (ps_expr (pe_bm0 PySem.F.plainAttrs_list PySem.F.slot_list_pop PySem.F.type_list_pop mt_pop (pv 3)))
      (pss_one (ps_expr (pe_bm PySem.F.plainAttrs_list PySem.F.slot_list_insert PySem.F.type_list_insert mt_insert (pv 3) (pa_cons (pe_op op_add (pe_bm PySem.F.plainAttrs_list PySem.F.slot_list_index PySem.F.type_list_index mt_index (pv 3) (pa_cons (pv 6) pa_nil)) pe_int) (pa_cons (pv 7) pa_nil))))))
      (pss_cons (ps_expr (pe_bm0 PySem.F.plainAttrs_list PySem.F.slot_list_pop PySem.F.type_list_pop mt_pop (pv 2)))
      (pss_one (ps_expr (pe_bm PySem.F.plainAttrs_list PySem.F.slot_list_insert PySem.F.type_list_insert mt_insert (pv 2) (pa_cons (pe_op op_add (pe_bm PySem.F.plainAttrs_list PySem.F.slot_list_index PySem.F.type_list_index mt_index (pv 2) (pa_cons (pv 7) pa_nil)) pe_int) (pa_cons (pv 6) pa_nil)))))))
      (pss_one (ps_ret (pe_callTy cr_tupP (by rfl) (T.f "tuple") (by decide +kernel) (pa_cons (pe_lc (own := [("_law_one", 8)]) (g := (gName 8)) (tt := tYes) (te := tBM K "list" (rIndex K) (tVar 3) (tCons (tVar 8) tNil)) rfl sc__law_moved_places.nd (pi_list (pv 2)) (blkOk_by (N := ["_law_places", "_law_kind", "_law_upper", "_law_lower", "_law_at", "_law_place", "_law_above", "_law_below", "_law_one"]) (sc := defScope dMoved.st) (by decide +kernel)) (fun _ _ _ _ _ => (pg_name (i := 8) sc__law_moved_places.nd rfl (Or.inl rfl))) (fun _ _ _ _ _ => pts_nil) (fun _ _ _ _ _ => (pe_bm PySem.F.plainAttrs_list PySem.F.slot_list_index PySem.F.type_list_index mt_index (pv 3) (pa_cons (pv 8) pa_nil)))) pa_nil)))))))), ?_⟩
    have big := size_big
    have hpl := G.len
    have h2 := G.two
    have h5 := G.2.1
    have L := G.loop
    have plt := K49.permB_lt G.perm
    have hiv := iV_len p
    refine ⟨.ref a, rfl, a, _, rfl, .inr ea.sq, _, rfl, RgOk.of_le (by omega) (by omega) (by omega) (by omega), fun ul nul => ⟨Nat.le_trans (by decide) (Nat.le_of_lt big), fun z nz => ?_⟩⟩
    have s1 : Same H (upd H ul (.lst (rgV 0 ((iV p).length : Nat)))) := same_upd nul
    have e1 : (upd H ul (.lst (rgV 0 ((iV p).length : Nat)))) ul = some (.lst (iV (List.range p.length))) := by
      rw [upd_same]
      unfold rgV iV
      simp
    generalize upd H ul (.lst (rgV 0 ((iV p).length : Nat))) = H1 at s1 e1 nz
    have s2 := s1.trans (same_upd (o := .lst [V.int 0]) nz)
    have e2 := (same_upd (o := .lst [V.int 0]) nz) _ _ e1
    have z2 : (upd H1 z (.lst [V.int 0])) z = some (.lst [V.int 0]) := upd_same
    generalize upd H1 z (.lst [V.int 0]) = H2 at s2 e2 z2
    refine ⟨.ref a, rfl, a, _, rfl, .inr (ea.same s2).sq, z, _, _, rfl, rfl, z2, by omega, by omega, by show 1 * _ ≤ _; omega, fun ll nll => ⟨by show 2 ≤ _; omega, fun t nt => ⟨t, _, rfl, SqT.of upd_same, rfl, _, _, rfl, _, _, rfl, rfl, ?_⟩⟩⟩
    have s3 := s2.trans (same_upd (o := .lst (List.replicate ((iV p).length : Int).toNat [V.int 0]).flatten) nll)
    have nll0 : H ll = none := Same.none s2 nll
    have hul : ul ≠ ll := fun e => by rw [e, nll] at e2; cases e2
    have e3 := (same_upd (o := .lst (List.replicate ((iV p).length : Int).toNat [V.int 0]).flatten) nll) _ _ e2
    have f3 : (upd H2 ll (.lst (List.replicate ((iV p).length : Int).toNat [V.int 0]).flatten)) ll = some (.lst (iV (List.replicate p.length 0))) := by
      rw [upd_same]
      have : ((iV p).length : Int).toNat = p.length := by rw [hiv]; rfl
      rw [this]
      have hr : ∀ m : Nat, (List.replicate m [V.int 0]).flatten = iV (List.replicate m 0) := by
        intro m
        induction m with
        | zero => rfl
        | succ m ih => rw [List.replicate_succ, List.flatten_cons, ih, List.replicate_succ]; rfl
      rw [hr]
    generalize upd H2 ll (.lst (List.replicate ((iV p).length : Int).toNat [V.int 0]).flatten) = H3 at s3 e3 f3 nt
    have s4 := s3.trans (same_upd (o := .tup [.ref ul, .ref ll]) nt)
    have e4 := (same_upd (o := .tup [.ref ul, .ref ll]) nt) _ _ e3
    have f4 := (same_upd (o := .tup [.ref ul, .ref ll]) nt) _ _ f3
    generalize upd H3 t (.tup [.ref ul, .ref ll]) = H4 at s4 e4 f4
    refine ⟨.ref a, rfl, a, _, rfl, (ea.same s4).sq, for_it walk_T (fun i σ H5 => ∃ y4 y5, σ = [some (.ref a), some (.str (kN k)), some (.ref ul), some (.ref ll), y4, y5, none, none, none] ∧ Same H H5 ∧ H5 ul = some (.lst (iV (List.range p.length))) ∧ H5 ll = some (.lst (iV (K49.lawLowerTo p i))))
      ⟨none, none, rfl, s4, e4, by rw [K49.lawLowerTo_zero]; exact f4⟩ (fun i σ H5 _ ⟨_, _, _, sm, _⟩ => (ea.same sm).sq) (fun i v σ H5 H6 hi hp y => ?_) (fun σ H5 hp => ?_)⟩
    · obtain ⟨y4, y5, rfl, s5, e5, f5⟩ := hp
      obtain ⟨Tu, xs, rfl, nT, rfl, zz, hz, rfl⟩ := y
      obtain ⟨x, hx, rfl⟩ := iV_at hz
      have s6 := s5.trans (same_upd (o := .tup [.int (i : Nat), .int (x : Int)]) nT)
      have e6 := (same_upd (o := .tup [.int (i : Nat), .int (x : Int)]) nT) _ _ e5
      have f6 := (same_upd (o := .tup [.int (i : Nat), .int (x : Int)]) nT) _ _ f5
      have hxl := plt x (List.mem_of_getElem? hx)
      refine ⟨Tu, _, rfl, SqT.of upd_same, rfl, _, _, rfl, _, _, rfl, rfl, ?_⟩
      refine ⟨_, rfl, _, rfl, _, rfl, ll, _, _, x, rfl, rfl, f6, ixN_nat (by rw [iV_len, K49.lawLowerTo_len]; exact hxl), _, _, rfl, same_fresh s6 nll0, by rw [upd_ne hul]; exact e6, ?_⟩
      rw [upd_same, iV_set, K49.lawLowerTo_succ hx]
    obtain ⟨y4, y5, rfl, s5, e5, f5⟩ := hp
    rw [hiv, K49.lawLowerTo_all] at f5
    have hlen : (K49.lawLower p).length = p.length := by rw [← K49.lawLowerTo_all]; exact K49.lawLowerTo_len p _
    have hl0 : K49.lawLower p ≠ [] := fun e => by rw [e, List.length_nil] at hlen; omega
    have hr0 : List.range p.length ≠ [] := fun e => by
      have := congrArg List.length e
      rw [List.length_range, List.length_nil] at this
      omega
    have gl : ∀ q : List Nat, q ≠ [] → (iV q)[(iV q).length - 1]? = some (.int ((q.getLastD 0 : Nat) : Int)) := fun q hq => by
      rw [← List.getLast?_eq_getElem?]
      exact iV_last hq
    refine ⟨_, rfl, 1, rfl, ul, _, _, _, rfl, rfl, SqL.of e5, atI_lastD (iV_last hr0), _, rfl, 1, rfl, ll, _, _, _, rfl, rfl, SqL.of f5, atI_lastD (iV_last hl0), _, _, rfl, ?_⟩
    cases k with
    | true =>
      refine ⟨_, rfl, rfl, _, rfl, itT (by decide) ?_⟩
      refine ⟨_, rfl, .inl ⟨rfl, _, SqL.of f5⟩, ll, _, _, rfl, rfl, f5, gl _ hl0, ?_⟩
      have s6 : Same H (upd H5 ll (.lst (iV (K49.lawLower p)).dropLast)) := same_fresh s5 nll0
      have eA6 : (upd H5 ll (.lst (iV (K49.lawLower p)).dropLast)) ll = some (.lst (iV (K49.lawLower p).dropLast)) := by rw [upd_same, iV_drop1]
      have eB6 : (upd H5 ll (.lst (iV (K49.lawLower p)).dropLast)) ul = _ := (upd_ne hul).trans e5
      generalize upd H5 ll (.lst (iV (K49.lawLower p)).dropLast) = H6 at s6 eA6 eB6
      obtain ⟨i1, i2, i3, i4, i5⟩ := idx_facts L.inL
      refine ⟨_, rfl, .inl ⟨rfl, _, SqL.of eA6⟩, _, rfl, .inl ⟨rfl, _, SqL.of eA6⟩, _, rfl, ll, _, _, _, _, rfl, rfl, SqL.of eA6, i1, i2, i3, i4, i5, _, _, rfl, rfl, _, rfl, ll, _, _, _, rfl, rfl, eA6, ?_, by omega, ?_, ?_⟩
      · rw [iV_len, List.length_dropLast]
        omega
      · have := List.idxOf_lt_length_of_mem L.inL
        rw [List.length_dropLast] at this
        omega
      rw [show ∀ j : Nat, ((j : Int) + 1).toNat = j + 1 from fun j => by omega, iV_ins]
      have eA : ∀ X : List Nat, (upd H6 ll (.lst (iV X))) ll = some (.lst (iV X)) := fun _ => upd_same
      have eB : ∀ X : List Nat, (upd H6 ll (.lst (iV X))) ul = _ := fun _ => (upd_ne hul).trans eB6
      have s7 : ∀ X : List Nat, Same H (upd H6 ll (.lst (iV X))) := fun _ => same_fresh s6 nll0
      have hU : ∀ x ∈ K49.lawU p true, x ∈ K49.lawL p true := L.there true
      have hM : K49.lawMoved p true = K49.next p true := L.moved true
      have hUl : (K49.lawU p true).length ≤ 10 := by
        have h := congrArg List.length hM
        unfold K49.lawMoved at h
        rw [List.length_map, (G.next true).len] at h
        omega
      refine ⟨_, rfl, ul, rfl, ⟨_, SqL.of (eB _)⟩, fun D nD => lc_it walk_list (LcP _ D fun i => iV (((K49.lawU p true).take i).map fun x => (K49.lawL p true).idxOf x)) (LcP.start nD rfl) (fun _ _ _ q => SqL.of (q.1 _ _ (eB _))) (fun i v H8 H9 hi q y => ?_) (fun H8 p8 => ?_)⟩
      · obtain ⟨rfl, hv⟩ := y
        obtain ⟨x, hx, rfl⟩ := iV_at hv
        have hx' : (K49.lawU p true)[i]? = some x := hx
        obtain ⟨j1, j2, j3, j4, j5⟩ := idx_facts (hU x (List.mem_of_getElem? hx'))
        refine ⟨rfl, _, rfl, .inl ⟨rfl, _, SqL.of (q.1 _ _ (eA _))⟩, _, rfl, ll, _, _, _, _, rfl, rfl, SqL.of (q.1 _ _ (eA _)), j1, j2, j3, j4, j5, q.step nD (Same.refl _) ?_ ?_⟩
        · rw [List.take_add_one, hx', Option.toList_some, List.map_append]
          simp [iV]
        · rw [iV_len, List.length_map, List.length_take]; omega
      · have s8 : Same _ H8 := p8.1
        have e8 : H8 D = some (.lst (iV (((K49.lawU p true).take (iV (K49.lawU p true)).length).map fun x => (K49.lawL p true).idxOf x))) := p8.2
        rw [List.take_of_length_le (by rw [iV_len]; exact Nat.le_refl _)] at e8
        refine ⟨D, _, rfl, SqL.of e8, fun o l ho nl => q _ l (((s7 _).trans s8).trans (same_upd nl)) (PT.mk (o := o) ?_ ho)⟩
        rw [upd_same, ← hM]
        rfl
    | false =>
      refine ⟨_, rfl, rfl, _, rfl, itF (by decide) ?_⟩
      refine ⟨_, rfl, .inl ⟨rfl, _, SqL.of e5⟩, ul, _, _, rfl, rfl, e5, gl _ hr0, ?_⟩
      have s6 : Same H (upd H5 ul (.lst (iV (List.range p.length)).dropLast)) := same_fresh s5 nul
      have eA6 : (upd H5 ul (.lst (iV (List.range p.length)).dropLast)) ul = some (.lst (iV (List.range p.length).dropLast)) := by rw [upd_same, iV_drop1]
      have eB6 : (upd H5 ul (.lst (iV (List.range p.length)).dropLast)) ll = _ := (upd_ne (Ne.symm hul)).trans f5
      generalize upd H5 ul (.lst (iV (List.range p.length)).dropLast) = H6 at s6 eA6 eB6
      obtain ⟨i1, i2, i3, i4, i5⟩ := idx_facts L.inU
      refine ⟨_, rfl, .inl ⟨rfl, _, SqL.of eA6⟩, _, rfl, .inl ⟨rfl, _, SqL.of eA6⟩, _, rfl, ul, _, _, _, _, rfl, rfl, SqL.of eA6, i1, i2, i3, i4, i5, _, _, rfl, rfl, _, rfl, ul, _, _, _, rfl, rfl, eA6, ?_, by omega, ?_, ?_⟩
      · rw [iV_len, List.length_dropLast]
        rw [List.length_range]; omega
      · have := List.idxOf_lt_length_of_mem L.inU
        rw [List.length_dropLast] at this
        rw [List.length_range] at this; omega
      rw [show ∀ j : Nat, ((j : Int) + 1).toNat = j + 1 from fun j => by omega, iV_ins]
      have eA : ∀ X : List Nat, (upd H6 ul (.lst (iV X))) ul = some (.lst (iV X)) := fun _ => upd_same
      have eB : ∀ X : List Nat, (upd H6 ul (.lst (iV X))) ll = _ := fun _ => (upd_ne (Ne.symm hul)).trans eB6
      have s7 : ∀ X : List Nat, Same H (upd H6 ul (.lst (iV X))) := fun _ => same_fresh s6 nul
      have hU : ∀ x ∈ K49.lawU p false, x ∈ K49.lawL p false := L.there false
      have hM : K49.lawMoved p false = K49.next p false := L.moved false
      have hUl : (K49.lawU p false).length ≤ 10 := by
        have h := congrArg List.length hM
        unfold K49.lawMoved at h
        rw [List.length_map, (G.next false).len] at h
        omega
      refine ⟨_, rfl, ul, rfl, ⟨_, SqL.of (eA _)⟩, fun D nD => lc_it walk_list (LcP _ D fun i => iV (((K49.lawU p false).take i).map fun x => (K49.lawL p false).idxOf x)) (LcP.start nD rfl) (fun _ _ _ q => SqL.of (q.1 _ _ (eA _))) (fun i v H8 H9 hi q y => ?_) (fun H8 p8 => ?_)⟩
      · obtain ⟨rfl, hv⟩ := y
        obtain ⟨x, hx, rfl⟩ := iV_at hv
        have hx' : (K49.lawU p false)[i]? = some x := hx
        obtain ⟨j1, j2, j3, j4, j5⟩ := idx_facts (hU x (List.mem_of_getElem? hx'))
        refine ⟨rfl, _, rfl, .inl ⟨rfl, _, SqL.of (q.1 _ _ (eB _))⟩, _, rfl, ll, _, _, _, _, rfl, rfl, SqL.of (q.1 _ _ (eB _)), j1, j2, j3, j4, j5, q.step nD (Same.refl _) ?_ ?_⟩
        · rw [List.take_add_one, hx', Option.toList_some, List.map_append]
          simp [iV]
        · rw [iV_len, List.length_map, List.length_take]; omega
      · have s8 : Same _ H8 := p8.1
        have e8 : H8 D = some (.lst (iV (((K49.lawU p false).take (iV (K49.lawU p false)).length).map fun x => (K49.lawL p false).idxOf x))) := p8.2
        rw [List.take_of_length_le (by rw [iV_len]; exact Nat.le_refl _)] at e8
        refine ⟨D, _, rfl, SqL.of e8, fun o l ho nl => q _ l (((s7 _).trans s8).trans (same_upd nl)) (PT.mk (o := o) ?_ ho)⟩
        rw [upd_same, ← hM]
        rfl
end
end R49
set_option Elab.async false
set_option linter.all false
set_option maxRecDepth 100000
set_option maxHeartbeats 4000000
namespace R49
open PySem PySem.Spec PyProof.Rows L2
/-
0=_law_places 1=_law_most 2=_law_found 3=_law_last 4=_law_turn 5=_law_later 6=_law_one 7=_law_kind 8=_law_goal
-/
def FnAt (P : Program) (w : World) (H : Hp) (d : Addr) (f : K49.Fd) : Prop := ∃ kvs, DX P w H d kvs ∧ Paired (fun (q : List L2.Key × V) (e : K49.Pl × K49.Inf) => q.1 = iK e.1 ∧ q.2 = .int ((e.2.1 : Nat) : Int)) kvs f
theorem FnAt.same {P : Program} {w : World} {H H' : Hp} {d : Addr} {f : K49.Fd} (s : Same H H') (h : FnAt P w H d f) : FnAt P w H' d f := by
  obtain ⟨kvs, h1, h2⟩ := h
  exact ⟨kvs, h1.same s, h2⟩
theorem FnAt.isX {P : Program} {w : World} {H : Hp} {d : Addr} {f : K49.Fd} (h : FnAt P w H d f) : IsX H d := let ⟨_, h, _⟩ := h; h.isX
theorem fn_val {kvs : List (List L2.Key × V)} {f : K49.Fd} (h : Paired (fun (q : List L2.Key × V) (e : K49.Pl × K49.Inf) => q.1 = iK e.1 ∧ q.2 = .int ((e.2.1 : Nat) : Int)) kvs f) (b : K49.Pl) :
    (valV kvs (iK b) = none ∧ b ∉ K49.keys f ∧ K49.inf f b = none) ∨ ∃ x, valV kvs (iK b) = some (.int ((x.1 : Nat) : Int)) ∧ K49.inf f b = some x := by
  induction h with
  | nil => exact .inl ⟨rfl, by simp [K49.keys], rfl⟩
  | @cons q e qs es z t ih =>
    obtain ⟨z1, z2⟩ := z
    by_cases hb : e.1 = b
    · refine .inr ⟨e.2, ?_, ?_⟩
      · rw [← z2]; exact valV_pos (by rw [z1, hb])
      unfold K49.inf
      rw [List.find?_cons_of_pos (by simpa using hb)]
      rfl
    · have hq : ¬ q.1 = iK b := fun y => hb (iK_inj (z1.symm.trans y))
      have hi : K49.inf (e :: es) b = K49.inf es b := by
        unfold K49.inf
        rw [List.find?_cons_of_neg (by simpa using hb)]
      rcases ih with ⟨h1, h2, h3⟩ | ⟨x, h1, h2⟩
      · refine .inl ⟨by rw [valV_neg hq]; exact h1, ?_, by rw [hi]; exact h3⟩
        intro hm
        rcases List.mem_cons.mp hm with e1 | e1
        · exact hb e1.symm
        · exact h2 e1
      · exact .inr ⟨x, by rw [valV_neg hq]; exact h1, by rw [hi]; exact h2⟩
section
variable {P : Program} {w : World} {K : PySem.W.Frag} {mg : Str → Option Value} {base : Heap}
theorem sc__law_class_reached : FnScope ["_law_places", "_law_most", "_law_found", "_law_last", "_law_turn", "_law_later", "_law_one", "_law_kind", "_law_goal"] ["_law_places", "_law_most"] (defScope dReached.st) := ⟨rfl, rfl, rfl, by decide +kernel, rfl, by decide +kernel, by decide +kernel⟩
def spReached (P : Program) (w : World) : Sp := fun vs H Q _ => ∃ a s n, vs = [.ref a, .int ((400 : Nat) : Int)] ∧ PT H a s ∧ K49.Good n s ∧ ∀ H' d, Same H H' → FnAt P w H' d (K49.G s 400).1 → Q (.ref d) H'
theorem ok_law_class_reached (T : Txt K mg) : Cal P w K mg base 2 dReached ["_law_places", "_law_most"] (spReached P w) := by
  have C_law_moved_places := ok_law_moved_places (P := P) (w := w) (base := base) T
  refine Cal.of T (List.mem_of_getElem? (i := 41) rfl) sc__law_class_reached (fun _ _ _ _ _ _ us hl => match us, hl with | [_, _], _ => rfl) (fun vs H Q E h => ?_) (fun cdv A outer st0 H vs Q E hr h => ?_)
  · obtain ⟨a, s, n, rfl, _⟩ := h
    rfl
  · obtain ⟨a, s, n, rfl, ea, G, q⟩ := h
    refine ⟨_, PSs.nox (pss_cons (ps_par (i := 2) (j := 3) (by rfl) sc__law_class_reached.nd rfl rfl (by decide) rfl rfl (pa_cons (pe_x1 (hu_of hr) (pv 0) pe_int) (pa_cons (pe_lst (pa_cons (pv 0) pa_nil)) pa_nil)) (by rfl))
      (pss_cons (ps_for PassesOwn.never rfl (pi_range1 (by rfl) (T.f "range") (pa_cons (pv 1) pa_nil)) (pg_name (i := 4) sc__law_class_reached.nd rfl (Or.inl rfl))
      (pss_cons (ps_set (i := 5) sc__law_class_reached.nd rfl (Or.inl rfl) (pe_lst pa_nil))
      (pss_cons (ps_for PassesOwn.never rfl (pi_list (pe_callTy call_list_of (by rfl) (T.f "list") (by decide +kernel) (pa_cons (pv 3) pa_nil))) (pg_name (i := 6) sc__law_class_reached.nd rfl (Or.inl rfl))
      (pss_one (ps_for PassesOwn.never rfl (pi_tup (pe_tup (pa_cons pe_str (pa_cons pe_str pa_nil)))) (pg_name (i := 7) sc__law_class_reached.nd rfl (Or.inl rfl))
      (pss_cons (ps_set (i := 8) sc__law_class_reached.nd rfl (Or.inl rfl) (pe_cal C_law_moved_places (hr.mono (by decide)) (T.g "_law_moved_places") (pa_cons (pv 6) (pa_cons (pv 7) pa_nil))))
      (pss_one (ps_if (pt_cmpR (op_xnotin (hu_of hr)) (pv 8) (pv 2) (by rfl))
      (pss_cons (ps_xput (hu_of hr) (pv 2) (pv 8) (pe_op op_add (pv 4) pe_int) rfl)
      (pss_one (ps_expr (pe_bm PySem.F.plainAttrs_list PySem.F.slot_list_append PySem.F.type_list_append mt_append (pv 5) (pa_cons (pv 8) pa_nil)))))
      pss_nil))))))
      (pss_one (ps_set (i := 3) sc__law_class_reached.nd rfl (Or.inl rfl) (pv 5))))))
      (pss_one (ps_ret (pv 2))))), ?_⟩
    have big := size_big
    have two := G.two
    refine fun d φ nd => ⟨_, rfl, upd_same, a, iK s, rfl, (ea.same (same_upd nd)), fun H3 hk hdx => ⟨_, rfl, by show 1 ≤ _; omega, fun ly nly => ⟨_, _, rfl, ?_⟩⟩⟩
    have s3 : Same H H3 := fun c o hc => (hk c (ne_of_none hc nd)).trans (by rw [upd_ne (ne_of_none hc nd)]; exact hc)
    have s4 : Same H3 (upd H3 ly (.lst [.ref a])) := same_upd nly
    refine ⟨_, rfl, _, rfl, by omega, by omega, for_it walk_range (fun t σ Hc => ∃ ly y4 y5 y6 y7 y8, σ = [some (.ref a), some (.int ((400 : Nat) : Int)), some (.ref d), some (.ref ly), y4, y5, y6, y7, y8] ∧ Same H Hc ∧ FnAt P w Hc d (K49.G s t).1 ∧ LrAt Hc ly (K49.G s t).2)
      ⟨ly, none, none, none, none, none, rfl, s3.trans s4, ⟨[(iK s, .int 0)], hdx.same s4, .cons ⟨rfl, rfl⟩ .nil⟩, ⟨[a], upd_same, .cons (ea.same (s3.trans s4)) .nil⟩⟩ (fun _ _ _ _ _ => trivial) (fun t v σ Hc Hc' ht hp y => ?_) (fun σ Hc hp => ?_)⟩
    · clear s3 s4 hk hdx nly
      obtain ⟨ly, y4, y5, y6, y7, y8, rfl, sc, fd, lr⟩ := hp
      obtain ⟨rfl, rfl⟩ := y
      obtain ⟨rs, er, pr⟩ := id lr
      refine ⟨Nat.zero_le _, fun lt nlt => ?_⟩
      have s1 : Same Hc' (upd Hc' lt (.lst [])) := same_upd nlt
      have sc1 := sc.trans s1
      have fd1 := fd.same s1
      have lr1 := lr.same s1
      have hlt0 : H lt = none := sc.free nlt
      have hd0 : H d = none := nd
      have lylt : ly ≠ lt := ne_of_none er nlt
      have elt1 : LrAt (upd Hc' lt (.lst [])) lt [] := ⟨[], upd_same, .nil⟩
      have er1 : (upd Hc' lt (.lst [])) ly = some (.lst (rs.map V.ref)) := s1 _ _ er
      generalize upd Hc' lt (.lst []) = H0 at s1 sc1 fd1 lr1 elt1 er1
      refine ⟨_, rfl, ly, _, rfl, .inl (SqL.of er1), fun cl ncl => ?_⟩
      have s2 : Same H0 (upd H0 cl (.lst (rs.map V.ref))) := same_upd ncl
      have sc2 := sc1.trans s2
      have fd2 := fd1.same s2
      have elt2 := elt1.same s2
      have ecl : (upd H0 cl (.lst (rs.map V.ref))) cl = some (.lst (rs.map V.ref)) := upd_same
      have lcl : LrAt (upd H0 cl (.lst (rs.map V.ref))) cl (K49.G s t).2 := ⟨rs, ecl, pair_imp (fun _ _ z => (PT.same s1 z).same s2) pr⟩
      have clt : cl ≠ lt := fun e => by
        obtain ⟨_, z, _⟩ := elt1
        rw [← e, ncl] at z
        cases z
      generalize upd H0 cl (.lst (rs.map V.ref)) = H1 at sc2 fd2 elt2 ecl lcl
      have hlen : rs.length = (K49.G s t).2.length := Paired.length pr
      refine ⟨cl, rfl, ⟨_, SqL.of ecl⟩, for_list (xs := rs.map V.ref) (fun i σ H3 => ∃ y6 y7 y8, σ = [some (.ref a), some (.int ((400 : Nat) : Int)), some (.ref d), some (.ref ly), some (.int (0 + (t : Nat))), some (.ref lt), y6, y7, y8] ∧ Same H H3 ∧ FnAt P w H3 d (midS s t i 0).1 ∧ LrAt H3 lt (midS s t i 0).2 ∧ LrAt H3 cl (K49.G s t).2 ∧ H3 cl = some (.lst (rs.map V.ref)))
        ⟨y6, y7, y8, rfl, sc2, by rw [midS_zero]; exact fd2, by rw [midS_zero]; exact elt2, lcl, ecl⟩ (fun i σ H3 _ ⟨_, _, _, _, _, _, _, _, e⟩ => SqL.of e) (fun i v3 σ H3 hv3 hp => ?_) (fun σ H3 hp => ?_)⟩
      · obtain ⟨y6, y7, y8, rfl, s3, fd3, lt3, lr3, er3⟩ := hp
        have hi : i < rs.length := by
          have := (List.getElem?_eq_some_iff.mp hv3).1
          simpa using this
        have hri : rs[i]? = some rs[i] := List.getElem?_eq_getElem hi
        have ev3 : v3 = .ref rs[i] := by
          rw [List.getElem?_map, hri] at hv3
          exact (Option.some.inj hv3).symm
        subst ev3
        have hui : i < (K49.G s t).2.length := by omega
        have hu : (K49.G s t).2[i]? = some (K49.G s t).2[i] := List.getElem?_eq_getElem hui
        generalize (K49.G s t).2[i] = u at hu
        have hpu : PT H3 rs[i] u := by
          obtain ⟨rs', e1, e2⟩ := id lr3
          rw [er3] at e1
          have e3 : rs.map V.ref = rs'.map V.ref := by
            have := Option.some.inj e1
            injection this
          have e4 : rs = rs' := by
            refine (List.map_inj_right (f := V.ref) fun x y z => by injection z).mp e3
          subst e4
          exact pair_get e2 hri hu
        have Gu : K49.Good n u := K49.key_good G (t := t) (layer_key hu)
        generalize rs[i] = pu at hpu
        refine ⟨by show 2 ≤ _; omega, fun wk nwk => ?_⟩
        have sw : Same H3 (upd H3 wk (.tup [.str "upper", .str "lower"])) := same_upd nwk
        have ewk : (upd H3 wk (.tup [.str "upper", .str "lower"])) wk = some (.tup [.str "upper", .str "lower"]) := upd_same
        have s3' := s3.trans sw
        have fd3' := fd3.same sw
        have lt3' := lt3.same sw
        have lr3' := lr3.same sw
        have er3' := sw _ _ er3
        have hpu' := hpu.same sw
        generalize upd H3 wk (.tup [.str "upper", .str "lower"]) = H3' at ewk s3' fd3' lt3' lr3' er3' hpu'
        refine ⟨wk, rfl, ⟨_, SqT.of ewk⟩, for_tup (xs := [.str "upper", .str "lower"]) (fun j σ H4 => ∃ y7 y8, σ = [some (.ref a), some (.int ((400 : Nat) : Int)), some (.ref d), some (.ref ly), some (.int (0 + (t : Nat))), some (.ref lt), some (.ref pu), y7, y8] ∧ Same H H4 ∧ FnAt P w H4 d (midS s t i j).1 ∧ LrAt H4 lt (midS s t i j).2 ∧ LrAt H4 cl (K49.G s t).2 ∧ H4 cl = some (.lst (rs.map V.ref)) ∧ PT H4 pu u ∧ H4 wk = some (.tup [.str "upper", .str "lower"]))
          ⟨y7, y8, rfl, s3', fd3', lt3', lr3', er3', hpu', ewk⟩ (fun _ _ _ _ hp => SqT.of (let ⟨_, _, _, _, _, _, _, _, _, e⟩ := hp; e)) (fun j v4 σ H4 hv4 hp => ?_) (fun σ H4 hp => ?_)⟩
        · obtain ⟨y7, y8, rfl, s4, fd4, lt4, lr4, er4, hpu4, ewk4⟩ := hp
          have hj : j < 2 := (List.getElem?_eq_some_iff.mp hv4).1
          obtain ⟨k, hk, rfl⟩ : ∃ k, [true, false][j]? = some k ∧ v4 = .str (kN k) := by
            match j, hv4 with
            | 0, h => cases h; exact ⟨true, rfl, rfl⟩
            | 1, h => cases h; exact ⟨false, rfl, rfl⟩
          have hm := midS_one s t i j hu hk
          have ml := midS_len G t i j (by omega) (Nat.le_of_lt hui)
          show tSeq _ _ _ _ _
          refine ⟨_, rfl, _, rfl, pu, u, n, k, rfl, hpu4, Gu, fun H5 r s5 hr5 => ?_⟩
          have fd5 := fd4.same s5
          obtain ⟨kv5, dx5, pk5⟩ := id fd5
          refine ⟨_, rfl, _, rfl, r, d, kv5, iK (K49.next u k), rfl, rfl, dx5, hr5, _, rfl, ?_⟩
          rw [hm]
          rcases fn_val pk5 (K49.next u k) with ⟨hv5, hn5, _⟩ | ⟨x5, hv5, hx5⟩
          · refine itT (by rw [hv5]; rfl) ?_
            have kl : kv5.length ≤ 71 := by rw [Paired.length pk5]; exact ml.1
            refine ⟨_, rfl, _, _, rfl, rfl, _, rfl, _, rfl, d, r, kv5, iK (K49.next u k), rfl, rfl, dx5, hr5, hv5, by omega, fun H7 hk7 dx7 => ?_⟩
            have x6 : IsX H5 d := dx5.isX
            have k67 : Kd d H5 H7 := fun c o hc h => (hk7 c hc).trans h
            have lt6 := lt4.same s5
            have dlt : d ≠ lt := LrAt.ne dx5 lt6
            have lt7 : LrAt H7 lt (midS s t i j).2 := lt6.kd k67 x6 dlt.symm
            obtain ⟨qs, eq7, pq7⟩ := id lt7
            have x7 : IsX H7 lt := isX_lst eq7
            have ql : qs.length ≤ 71 := by rw [Paired.length pq7]; exact ml.2
            refine ⟨_, rfl, .inl ⟨rfl, _, SqL.of eq7⟩, _, rfl, lt, _, _, rfl, rfl, eq7, by rw [List.length_map]; omega, ?_⟩
            have k78 : Kd lt H7 (upd H7 lt (.lst (qs.map V.ref ++ [.ref r]))) := upd_kd _ _ _
            have hst : K49.stp (t + 1) (midS s t i j) (u, k) = ((midS s t i j).1 ++ [(K49.next u k, t + 1, some (k, u))], (midS s t i j).2 ++ [K49.next u k]) := by
              unfold K49.stp
              rw [if_neg hn5]
            rw [hst]
            have hr7 : PT H7 r (K49.next u k) := k67.pt x6 hr5
            have ly6 := lr4.same s5
            have dly : d ≠ cl := LrAt.ne dx5 ly6
            refine ⟨some (.str (kN k)), some (.ref r), rfl, fun c o hc => ?_, ⟨kv5 ++ [(iK (K49.next u k), V.int (0 + (t : Nat) + 1))], DX.kd (P := P) (w := w) k78 x7 dlt dx7, Paired.snoc pk5 ⟨rfl, ?_⟩⟩, ⟨qs ++ [r], by rw [upd_same, List.map_append]; rfl, Paired.snoc (pair_imp (fun _ _ z => k78.pt x7 z) pq7) (k78.pt x7 hr7)⟩, (ly6.kd k67 x6 dly.symm).kd k78 x7 clt, k78 _ _ clt (k67 _ _ dly.symm (s5 _ _ er4)), k78.pt x7 (k67.pt x6 (hpu4.same s5)), k78.tup x7 (k67.tup x6 (s5 _ _ ewk4))⟩
            · refine k78 _ _ (ne_of_none hc hlt0) (k67 _ _ (ne_of_none hc hd0) (s5 _ _ (s4 _ _ hc)))
            · show V.int (0 + (t : Nat) + 1) = V.int ((t + 1 : Nat) : Int)
              congr 1
              omega
          · refine itF (by rw [hv5]; rfl) ?_
            have hin : K49.next u k ∈ K49.keys (midS s t i j).1 := by
              have := K49.inf_mem hx5
              exact List.mem_map.mpr ⟨_, this, rfl⟩
            have hst : K49.stp (t + 1) (midS s t i j) (u, k) = midS s t i j := by
              unfold K49.stp
              rw [if_pos hin]
            rw [hst]
            exact ⟨some (.str (kN k)), some (.ref r), rfl, s4.trans s5, fd5, lt4.same s5, lr4.same s5, s5 _ _ er4, hpu4.same s5, s5 _ _ ewk4⟩
        · obtain ⟨y7, y8, rfl, s4, fd4, lt4, lr4, er4, hpu4, ewk4⟩ := hp
          have e2 : midS s t i 2 = midS s t (i + 1) 0 := midS_next s t i hu
          have fd4' : FnAt P w H4 d (midS s t i 2).1 := fd4
          have lt4' : LrAt H4 lt (midS s t i 2).2 := lt4
          rw [e2] at fd4' lt4'
          exact ⟨_, _, _, rfl, s4, fd4', lt4', lr4, er4⟩
      · obtain ⟨y6, y7, y8, rfl, s3, fd3, lt3, lr3, er3⟩ := hp
        have e2 : midS s t (rs.map V.ref).length 0 = K49.G s (t + 1) := by
          rw [List.length_map, hlen]
          exact midS_end s t
        rw [e2] at fd3 lt3
        exact ⟨_, rfl, lt, _, _, _, _, _, rfl, s3, fd3, lt3⟩
    · obtain ⟨ly, y4, y5, y6, y7, y8, rfl, sc, fd, lr⟩ := hp
      exact ⟨_, rfl, q Hc d sc fd⟩
end
end R49
set_option Elab.async false
set_option linter.all false
set_option maxRecDepth 100000
set_option maxHeartbeats 4000000
namespace R49
open PySem PySem.Spec PyProof.Rows L2
/-
0=_law_dice_here 1=_law_times 2=_law_turn
0=_law_dice_here 1=_law_times 2=_law_upper 3=_law_lower 4=_law_one 5=_law_far 6=_law_names 7=_law_name 8=_law_other
-/
/-! ### orders when the dice roll -/
theorem kd_get {d a : Addr} {H H' : Hp} {o : HO} {xs : List V} (k : Kd d H H') (e : H d = some (.lst xs)) (h : H a = some o) (ne : ∀ ys, o ≠ .lst ys) : H' a = some o := by
  refine k a o (fun z => ?_) h
  rw [z, e] at h
  exact ne _ (Option.some.inj h).symm
theorem slt_kd {d : Addr} {H H' : Hp} {xs : List V} (k : Kd d H H') (e : H d = some (.lst xs)) {a C dx : Addr} {vs : List (Option V)} (h : SlX.Slt H a C dx vs) : SlX.Slt H' a C dx vs := by
  rcases h with ⟨h1, h2⟩ | ⟨h1, h2⟩
  · exact .inl ⟨kd_get k e h1 (fun _ z => nomatch z), h2⟩
  · exact .inr ⟨kd_get k e h1 (fun _ z => by unfold SlX.SlO at z; cases z), kd_get k e h2 (fun _ z => nomatch z)⟩
theorem ord_kd {K : PySem.W.Frag} {d : Addr} {H H' : Hp} {a : Addr} {u l : List Str} (k : Kd d H H') (D : DiceAt H d) (h : OrdAt K H a u l) : OrdAt K H' a u l := by
  have x := D.x
  obtain ⟨_, _, _, e⟩ := D
  obtain ⟨r, dx, vs, up, lo, pl, ua, h0, h1, h2, h3, h4, h5, h6, h7, h8, h9⟩ := h
  exact ⟨r, dx, vs, up, lo, pl, ua, slt_kd k e h0, h1, h2, h3, h4, h5, k.tup x h6, k.tup x h7, k.pt x h8, kd_get k e h9 (fun _ z => nomatch z)⟩
theorem init_to {K : PySem.W.Frag} {H : Hp} {a b : Addr} {u l : List Str} {Q : VK} {E : XK} (R : Rows u l) (ea : H a = some (.tup (sV u))) (eb : H b = some (.tup (sV l))) (x dx : Addr) (hx : H x = none) (hdx : H dx = none) (ne : dx ≠ x) (q : ∀ H', Same H H' → OrdAt K H' x u l → Q .non H') :
    spInit K (.ref x :: [.ref a, .ref b]) (upd (upd H dx (.own x)) x (.ins (gA "Order" K) dx [])) Q E := by
  refine ⟨x, dx, a, b, u, l, rfl, upd_same, by rw [upd_ne ne, upd_same], ne, ?_, ?_, R, fun H' k o => q H' (made_ord hx hdx ne k) o⟩
  · rw [upd_ne (ne_of_none ea hx), upd_ne (ne_of_none ea hdx)]; exact ea
  · rw [upd_ne (ne_of_none eb hx), upd_ne (ne_of_none eb hdx)]; exact eb
section
variable {P : Program} {w : World} {K : PySem.W.Frag} {mg : Str → Option Value} {base : Heap}
theorem sc__law_walk_drawn : FnScope ["_law_dice_here", "_law_times", "_law_turn"] ["_law_dice_here", "_law_times"] (defScope dWalkDrawn.st) := ⟨rfl, rfl, rfl, by decide +kernel, rfl, by decide +kernel, by decide +kernel⟩
def spWalkDrawn : Sp := fun vs H Q _ => ∃ (d : Addr) (m : Nat), vs = [.ref d, .int (m : Nat)] ∧ DiceAt H d ∧ m ≤ 100 ∧ ∀ H' r ks, Kd d H H' → DiceAt H' d → H' r = some (.tup (kW ks)) → ks.length = m → Q (.ref r) H'
theorem ok_law_walk_drawn (T : Txt K mg) : Cal P w K mg base 3 dWalkDrawn ["_law_dice_here", "_law_times"] spWalkDrawn := by
  have C_law_pick := ok_law_pick (P := P) (w := w) (base := base) T
  refine Cal.of T (List.mem_of_getElem? (i := 42) rfl) sc__law_walk_drawn (fun _ _ _ _ _ _ us hl => match us, hl with | [_, _], _ => rfl) (fun vs H Q E h => ?_) (fun cdv A outer st0 H vs Q E hr h => ?_)
  · obtain ⟨d, m, rfl, _⟩ := h
    rfl
  · obtain ⟨d, m, rfl, D, hm, q⟩ := h
    refine ⟨_, PSs.nox (pss_one (ps_ret (pe_callTy call_tuple_of (by rfl) (T.f "tuple") (by decide +kernel) (pa_cons (pe_lc (own := [("_law_turn", 2)]) (g := (gName 2)) (tt := tYes) (te := tCall (spPick K) [] E0 (tCons (tVar 0) (tCons (tLst (tCons (tC (.str "upper")) (tCons (tC (.str "lower")) tNil))) tNil))) rfl sc__law_walk_drawn.nd (pi_range1 (by rfl) (T.f "range") (pa_cons (pv 1) pa_nil)) (blkOk_by (N := ["_law_dice_here", "_law_times", "_law_turn"]) (sc := defScope dWalkDrawn.st) (by decide +kernel)) (fun _ _ _ _ _ => (pg_name (i := 2) sc__law_walk_drawn.nd rfl (Or.inl rfl))) (fun _ _ _ _ _ => pts_nil) (fun _ _ _ _ _ => (pe_cal C_law_pick (hr.mono (by decide)) (T.g "_law_pick") (pa_cons (pv 0) (pa_cons (pe_lst (pa_cons pe_str (pa_cons pe_str pa_nil))) pa_nil))))) pa_nil)))), ?_⟩
    have big := size_big
    refine ⟨_, rfl, _, rfl, by omega, by omega, fun L nL => ?_⟩
    have hLd := dice_ne D nL
    refine lc_it walk_range (fun i H3 => Kd d H H3 ∧ DiceAt H3 d ∧ ∃ ks, ks.length = i ∧ H3 L = some (.lst (kW ks))) ⟨kd_fresh (Kd.refl d H) nL, dice_upd D hLd, [], rfl, upd_same⟩ (fun _ _ _ _ => trivial) (fun i v H3 H4 hi p y => ?_) (fun H3 p => ?_)
    · obtain ⟨k3, D3, ks, hks, eL⟩ := p
      obtain ⟨rfl, rfl⟩ := y
      have hi' : i < m := hi
      refine ⟨rfl, _, rfl, by show 2 ≤ _; omega, fun t nt => ?_⟩
      have htd := dice_ne D3 nt
      refine ⟨d, t, _, rfl, dice_upd D3 htd, htd, upd_same, by decide, by decide, fun H6 x k6 D6 hx => ?_⟩
      obtain ⟨k, rfl⟩ : ∃ k, x = .str (kN k) := by
        simp only [List.mem_cons, List.not_mem_nil, or_false] at hx
        rcases hx with e | e
        · exact ⟨true, e⟩
        · exact ⟨false, e⟩
      have e6 : H6 L = some (.lst (kW ks)) := k6 _ _ hLd ((same_upd nt) _ _ eL)
      have k7 : Kd d H H6 := (k3.same (same_upd nt)).trans k6
      refine ⟨_, e6, by rw [kW_len]; omega, kd_fresh k7 nL, dice_upd D6 hLd, ks ++ [k], by simp [hks], ?_⟩
      rw [upd_same]
      unfold kW
      rw [List.map_append]
      rfl
    · obtain ⟨k3, D3, ks, hks, eL⟩ := p
      have hks' : ks.length = m := hks
      refine ⟨L, _, rfl, .inl ⟨SqL.of eL, fun t nt => q _ t ks (kd_fresh k3 (k3.none (dice_ne D3 nt) nt)) (dice_upd D3 (dice_ne D3 nt)) upd_same hks'⟩⟩
theorem sc__law_pair_drawn : FnScope ["_law_dice_here", "_law_times", "_law_upper", "_law_lower", "_law_one", "_law_far", "_law_names", "_law_name", "_law_other"] ["_law_dice_here"] (defScope dPairDrawn.st) := ⟨rfl, rfl, rfl, by decide +kernel, rfl, by decide +kernel, by decide +kernel⟩
def spPair (K : PySem.W.Frag) : Sp := fun vs H Q _ => ∃ (d : Addr), vs = [.ref d] ∧ DiceAt H d ∧ ∀ H' t x y u l u' l', Kd d H H' → DiceAt H' d → H' t = some (.tup [.ref x, .ref y]) → OrdAt K H' x u l → OrdAt K H' y u' l' → u'.length = u.length → Q (.ref t) H'
theorem ok_law_pair_drawn (T : Txt K mg) : Cal P w K mg base 8 dPairDrawn ["_law_dice_here"] (spPair K) := by
  have C_law_roll := ok_law_roll (P := P) (w := w) (base := base) T
  have C_law_rows_drawn := ok_law_rows_drawn (P := P) (w := w) (base := base) T
  have C_law_walk_drawn := ok_law_walk_drawn (P := P) (w := w) (base := base) T
  have C_law_names_drawn := ok_law_names_drawn (P := P) (w := w) (base := base) T
  have C_order_behind := ok_order_behind (P := P) (w := w) (base := base) T
  have C_init := ok_init (P := P) (w := w) (base := base) T
  have C_renamed := ok_renamed (P := P) (w := w) (base := base) T
  have C_above := ok_above (P := P) (w := w) (base := base) T
  refine Cal.of T (List.mem_of_getElem? (i := 43) rfl) sc__law_pair_drawn (fun _ _ _ _ _ _ us hl => match us, hl with | [_], _ => rfl) (fun vs H Q E h => ?_) (fun cdv A outer st0 H vs Q E hr h => ?_)
  · obtain ⟨d, rfl, _⟩ := h
    rfl
  · obtain ⟨d, rfl, D, q⟩ := h
    refine ⟨_, PSs.nox (pss_cons (ps_set (i := 1) sc__law_pair_drawn.nd rfl (Or.inl rfl) (pe_op op_add pe_int (pe_cal C_law_roll (hr.mono (by decide)) (T.g "_law_roll") (pa_cons (pv 0) (pa_cons pe_int pa_nil)))))
      (pss_cons (ps_asg (pe_cal C_law_rows_drawn (hr.mono (by decide)) (T.g "_law_rows_drawn") (pa_cons (pv 0) (pa_cons (pv 1) pa_nil))) (pg_tup rfl (pgs_cons (pg_name (i := 2) sc__law_pair_drawn.nd rfl (Or.inl rfl)) (pgs_cons (pg_name (i := 3) sc__law_pair_drawn.nd rfl (Or.inl rfl)) pgs_nil))))
      (pss_cons (ps_set (i := 4) sc__law_pair_drawn.nd rfl (Or.inl rfl) (pe_order T C_init (hr.mono (by decide)) (pa_cons (pe_callTy call_tuple_of (by rfl) (T.f "tuple") (by decide +kernel) (pa_cons (pv 2) pa_nil)) (pa_cons (pe_callTy call_tuple_of (by rfl) (T.f "tuple") (by decide +kernel) (pa_cons (pv 3) pa_nil)) pa_nil))))
      (pss_cons (ps_if (pt_cmpR op_eq (pe_cal C_law_roll (hr.mono (by decide)) (T.g "_law_roll") (pa_cons (pv 0) (pa_cons pe_int pa_nil))) pe_int (nomark _))
      (pss_cons (ps_asg (pe_cal C_law_rows_drawn (hr.mono (by decide)) (T.g "_law_rows_drawn") (pa_cons (pv 0) (pa_cons (pv 1) pa_nil))) (pg_tup rfl (pgs_cons (pg_name (i := 2) sc__law_pair_drawn.nd rfl (Or.inl rfl)) (pgs_cons (pg_name (i := 3) sc__law_pair_drawn.nd rfl (Or.inl rfl)) pgs_nil))))
      (pss_one (ps_ret (pe_tup (pa_cons (pv 4) (pa_cons (pe_order T C_init (hr.mono (by decide)) (pa_cons (pe_callTy call_tuple_of (by rfl) (T.f "tuple") (by decide +kernel) (pa_cons (pv 2) pa_nil)) (pa_cons (pe_callTy call_tuple_of (by rfl) (T.f "tuple") (by decide +kernel) (pa_cons (pv 3) pa_nil)) pa_nil))) pa_nil))))))
      pss_nil)
      (pss_cons (ps_par (i := 5) (j := 6) (by rfl) sc__law_pair_drawn.nd rfl rfl (by decide) rfl rfl (pa_cons (pe_cal C_order_behind (hr.mono (by decide)) (T.g "order_behind") (pa_cons (pv 4) (pa_cons (pe_cal C_law_walk_drawn (hr.mono (by decide)) (T.g "_law_walk_drawn") (pa_cons (pv 0) (pa_cons (pe_cal C_law_roll (hr.mono (by decide)) (T.g "_law_roll") (pa_cons (pv 0) (pa_cons pe_int pa_nil))) pa_nil))) pa_nil))) (pa_cons pe_dnewK pa_nil)) (by rfl))
      (pss_cons (ps_for PassesOwn.never rfl (pi_zipTL (by rfl) (T.f "zip") (pa_cons (SlX.pe_propSl (CX := CX0) (E := E0) (pv 4) T.cls (T.pat "above" (by decide)).1 (T.pat "above" (by decide)).2.1 (T.pat "above" (by decide)).2.2.1 (T.pat "above" (by decide)).2.2.2 C_above.r (hr.mono (by decide)) (fun _ _ _ _ z => z.elim)) (pa_cons (pe_cal C_law_names_drawn (hr.mono (by decide)) (T.g "_law_names_drawn") (pa_cons (pv 0) (pa_cons (pv 1) pa_nil))) pa_nil))) (pg_tup rfl (pgs_cons (pg_name (i := 7) sc__law_pair_drawn.nd rfl (Or.inl rfl)) (pgs_cons (pg_name (i := 8) sc__law_pair_drawn.nd rfl (Or.inl rfl)) pgs_nil)))
      (pss_one (ps_dput (hu_of hr) (pv 6) (pv 7) (pv 8) rfl)))
      (pss_one (ps_ret (pe_tup (pa_cons (pv 4) (pa_cons (SlX.pe_methSl (pv 5) T.cls (T.own "renamed" (by decide)) C_renamed.r (hr.mono (by decide)) pass0 (pa_cons (pv 6) pa_nil)) pa_nil))))))))))), ?_⟩
    have big := size_big
    refine ⟨_, rfl, d, 4, rfl, D, by omega, by omega, fun H1 r k1 D1 hr4 => ⟨_, _, rfl, rfl, ?_⟩⟩
    have en : (2 : Int) + ((r : Nat) : Int) = ((2 + r : Nat) : Int) := by omega
    have eqn : [V.ref d, V.int (2 + ((r : Nat) : Int))] = [V.ref d, V.int ((2 + r : Nat) : Int)] := by rw [en]
    refine ⟨_, rfl, _, rfl, d, 2 + r, eqn, D1, by omega, by omega, fun H2 t x y u l k2 D2 et ex ey hxd hyd R hu => ⟨t, _, rfl, SqT.of et, rfl, _, _, rfl, _, _, rfl, rfl, ?_⟩⟩
    refine ⟨_, rfl, x, _, rfl, .inl ⟨SqL.of ex, fun tx ntx => ⟨_, rfl, y, _, rfl, .inl ⟨SqL.of ((same_upd ntx) _ _ ey), fun ty nty => fun a dx hx hdx ne => init_to R ((same_upd nty) _ _ upd_same) upd_same a dx hx hdx ne fun H3 sm O => ⟨rfl, ?_⟩⟩⟩⟩⟩
    have k3 : Kd d H H3 := (k1.trans k2).same (((same_upd ntx).trans (same_upd nty)).trans sm)
    have D3 : DiceAt H3 d := ((D2.same (same_upd ntx)).same (same_upd nty)).same sm
    clear ex ey et
    obtain ⟨_, dxo, vso, upo, loo, plo, uao, S, _⟩ := id O
    refine ⟨_, rfl, d, 2, rfl, D3, by omega, by omega, fun H4 r2 k4 D4 hr2 => ⟨rfl, _, rfl, itE (fun _ => ?_) (fun _ => ?_)⟩⟩
    · have O4 := ord_kd k4 D3 O
      refine ⟨_, rfl, _, rfl, d, 2 + r, eqn, D4, by omega, by omega, fun H5 t x y u' l' k5 D5 et ex ey hxd hyd R' hu' => ⟨t, _, rfl, SqT.of et, rfl, _, _, rfl, _, _, rfl, rfl, ?_⟩⟩
      have O5 := ord_kd k5 D4 O4
      refine ⟨_, rfl, _, rfl, x, _, rfl, .inl ⟨SqL.of ex, fun tx ntx => ⟨_, rfl, y, _, rfl, .inl ⟨SqL.of ((same_upd ntx) _ _ ey), fun ty nty => fun b dx hx hdx ne => init_to R' ((same_upd nty) _ _ upd_same) upd_same b dx hx hdx ne fun H6 sm O' => ⟨rfl, ?_⟩⟩⟩⟩⟩
      have s6 := ((same_upd (o := .tup (sV u')) ntx).trans (same_upd (o := .tup (sV l')) nty)).trans sm
      refine ⟨by show 2 ≤ _; omega, fun tp ntp => ?_⟩
      have s7 := s6.trans (same_upd (o := .tup [.ref a, .ref b]) ntp)
      exact q _ tp a b u l u' l' ((k3.trans (k4.trans k5)).same s7) (D5.same s7) upd_same (same_ord s7 O5) (same_ord (same_upd ntp) O') (by omega)
    · have O4 := ord_kd k4 D3 O
      refine ⟨_, rfl, _, rfl, _, rfl, d, 9, rfl, D4, by omega, by omega, fun H5 r9 k5 D5 hr9 => ⟨d, r9, rfl, D5, by omega, fun H6 wr ks k6 D6 ew hks => ?_⟩⟩
      have O6 := ord_kd k6 D5 (ord_kd k5 D4 O4)
      refine ⟨a, wr, u, l, ks, rfl, O6, ew, by omega, fun H7 far s7 Of => fun nm nnm => ⟨_, _, rfl, ?_⟩⟩
      have O7 := same_ord s7 O6
      have D7 := D6.same s7
      have k7 : Kd d H H7 := (k3.trans (k4.trans (k5.trans k6))).same s7
      have hnmd := dice_ne D7 nnm
      have hnm0 : H nm = none := k7.none hnmd nnm
      have pmU := runR_perm O.1 ks
      generalize hRR : runR u l ks = UL at Of pmU
      obtain ⟨U, W⟩ := UL
      have s8 : Same H7 (upd H7 nm (.dK [])) := same_upd nnm
      have k8 : Kd d H7 (upd H7 nm (.dK [])) := Same.kd s8
      have D8 := D7.same s8
      have e8 : (upd H7 nm (.dK [])) nm = some (.dK []) := upd_same
      have O8 := same_ord s8 O7
      obtain ⟨_, dxo, vso, _, _, _, _, S8, _⟩ := id O8
      generalize upd H7 nm (.dK []) = H8 at s8 k8 D8 e8 O8 S8
      refine ⟨.ref a, rfl, a, dxo, vso, rfl, S8, a, u, l, rfl, O8, fun r1 p1 => ?_⟩
      refine ⟨_, rfl, _, rfl, d, 2 + r, eqn, D8, by omega, fun H9 np ns k9 D9 nnp hnpd enp hln ndn okn => ?_⟩
      have hnpnm : np ≠ nm := fun e => by rw [e, e8] at nnp; cases nnp
      have p9 : H9 r1 = some (.tup (sV u)) := k9.tup D8.x p1
      have e9 : H9 nm = some (.dK []) := k9 _ _ hnmd e8
      have N : Naming u ns := ⟨by omega, ndn, okn⟩
      have nmx : ∀ {i : Nat} {x y : Str}, u[i]? = some x → ns[i]? = some y → (nmD u ns)[i]? = some (Sum.inr x, .str y) := fun {i x y} hx hy => by
        unfold nmD
        have z : (u.zip ns)[i]? = some (x, y) := List.getElem?_zip_eq_some.mpr ⟨hx, hy⟩
        rw [List.getElem?_map, z]
        rfl
      have h10 := O.1.row.2.1
      refine ⟨r1, np, _, _, rfl, SqT.of p9, SqL.of enp, by rw [sV_len, sV_len]; omega, for_it walk_T (fun i σ Hc => ∃ y7 y8, σ = [some (.ref d), some (.int (2 + ((r : Nat) : Int))), some (.ref x), some (.ref y), some (.ref a), some (.ref far), some (.ref nm), y7, y8] ∧ Kd d H7 Hc ∧ DiceAt Hc d ∧ Hc nm = some (.dK ((nmD u ns).take i)) ∧ Hc r1 = some (.tup (sV u)) ∧ Hc np = some (.lst (sV ns)))
        ⟨none, none, rfl, k8.trans k9, D9, e9, p9, enp⟩ (fun i σ Hc _ ⟨_, _, _, _, _, _, z1, z2⟩ => ⟨SqT.of z1, SqL.of z2⟩) (fun i v σ Hc Hc' hi hp y => ?_) (fun σ Hc hp => ?_)⟩
      · obtain ⟨y7, y8, rfl, kc, Dc, ec, pc, nc⟩ := hp
        obtain ⟨Tu, xs, rfl, nT, rfl, vx, vy, hvx, hvy, rfl⟩ := y
        obtain ⟨x1, hx1, rfl⟩ := sV_at hvx
        obtain ⟨y1, hy1, rfl⟩ := sV_at hvy
        have sT := same_upd (o := .tup [.str x1, .str y1]) nT
        have hil := (List.getElem?_eq_some_iff.mp hx1).1
        refine ⟨Tu, _, rfl, SqT.of upd_same, rfl, _, _, rfl, _, _, rfl, rfl, ?_⟩
        refine ⟨_, rfl, _, rfl, _, rfl, nm, _, rfl, DPut.k (k := Sum.inr x1) (sT _ _ ec) (by rw [List.length_take]; omega), _, _, rfl, kd_fresh (kc.same sT) nnm, dice_upd (Dc.same sT) hnmd, ?_, ?_, ?_⟩
        · rw [upd_same, List.take_add_one, nmx hx1 hy1, putK_new]
          · rfl
          · intro p hp e
            obtain ⟨j, hj⟩ := List.mem_iff_getElem?.mp hp
            have hji : j < i := by
              have := (List.getElem?_eq_some_iff.mp hj).1
              rw [List.length_take] at this
              omega
            rw [List.getElem?_take_of_lt hji] at hj
            obtain ⟨pk, pv⟩ := p
            obtain ⟨x2, y2, hx2, _, ek, _⟩ := nmD_at N.len hj
            have e' : pk = Sum.inr x1 := e
            rw [ek] at e'
            injection e' with e'
            have := nodup_ix O.1.row.2.2.1 hx2 (e' ▸ hx1)
            omega
        · rw [upd_ne (fun e => by rw [e, ec] at pc; cases pc)]
          exact sT _ _ pc
        · rw [upd_ne hnpnm]
          exact sT _ _ nc
      · obtain ⟨y7, y8, rfl, kc, Dc, ec, pc, nc⟩ := hp
        have ec' : Hc nm = some (.dK (nmD u ns)) := by
          have z : Hc nm = some (.dK ((nmD u ns).take (sV u).length)) := ec
          rw [List.take_of_length_le (by rw [sV_len, nmD_len N.len]; exact Nat.le_refl _)] at z
          exact z
        have Oc := ord_kd kc D7 O7
        have Ofc := ord_kd kc D7 Of
        have off : OrdOff K Hc nm far U W := fun o => ord_kd (kd_fresh kc nnm) D7 Of
        obtain ⟨_, dxf, vsf, _, _, _, _, Sf, _⟩ := id Ofc
        refine ⟨_, rfl, _, rfl, far, dxf, vsf, rfl, Sf, _, rfl, far, nm, U, W, u, ns, rfl, off, ec', pmU.symm, N, fun H10 r10 s10 O10 => ⟨by show 2 ≤ _; omega, fun tp ntp => ?_⟩⟩
        have s11 := s10.trans (same_upd (o := .tup [.ref a, .ref r10]) ntp)
        exact q _ tp a r10 u l _ _ ((k7.trans kc).same s11) (Dc.same s11) upd_same (same_ord s11 Oc) (same_ord (same_upd ntp) O10) (by rw [List.length_map]; exact pmU.length_eq)
end
end R49
set_option Elab.async false
set_option linter.all false
set_option maxRecDepth 100000
set_option maxHeartbeats 4000000
namespace R49
open PySem PySem.Spec PyProof.Rows L2
/-
0=_law_dice_here 1=_law_walk 2=_law_at 3=_law_thing
0=_law_one 1=_law_other 2=_law_walk 3=_law_here 4=_law_kind
-/
theorem catA_of {K : PySem.W.Frag} {H : Hp} {a b : Addr} {xs ys : List V} {Q : VK} (ea : H a = some (.tup xs)) (eb : H b = some (.tup ys)) (hl : xs.length + ys.length ≤ sizeLine) (q : ∀ H' r, Same H H' → H' r = some (.tup (xs ++ ys)) → Q (.ref r) H') : rCatA K (.ref a) (.ref b) H Q := by
  refine ⟨a, b, xs, ys, rfl, rfl, SqT.of ea, SqT.of eb, hl, fun e => q H b (Same.refl _) ?_, fun _ e => q H a (Same.refl _) ?_, fun _ _ p np => q _ p (same_upd np) upd_same⟩
  · rw [e]; exact eb
  · rw [e, List.append_nil]; exact ea
theorem walked_kW {H : Hp} {ks : List Bool} {x : V} (h : x ∈ kW ks) : WalkedV H x true := by
  unfold kW at h
  obtain ⟨k, _, rfl⟩ := List.mem_map.mp h
  exact .inl ⟨kN k, rfl, by cases k <;> decide⟩
theorem VT.kd {d : Addr} {H H' : Hp} {v : V} {n : String} (k : Kd d H H') (D : DiceAt H d) (hv : v ≠ .ref d) (h : VT H v n) : VT H' v n := by
  have x := D.x
  obtain ⟨_, _, _, e⟩ := D
  cases h with
  | non => exact .non
  | bl b => exact .bl b
  | int i => exact .int i
  | str y => exact .str y
  | tup h => exact .tup (k.tup x h)
  | lst h => exact .lst (k _ _ (fun z => hv (by rw [z])) h)
  | dK h => exact .dK (kd_get k e h (fun _ z => nomatch z))
theorem WalkedV.kd {d : Addr} {H H' : Hp} {v : V} {b : Bool} (k : Kd d H H') (D : DiceAt H d) (hv : v ≠ .ref d) (h : WalkedV H v b) : WalkedV H' v b := by
  rcases h with h | ⟨h, n, t, hn⟩
  · exact .inl h
  · exact .inr ⟨h, n, t.kd k D hv, hn⟩
/-- a course with one wrong thing in it -/
theorem course_bad {H : Hp} {a : Addr} {ps qs : List Bool} {x : V} (e : H a = some (.tup (kW ps ++ [x] ++ kW qs))) (hl : ps.length + qs.length ≤ 1000) (hx : WalkedV H x false) : CourseV H (.ref a) false := by
  refine .inl ⟨a, _, ps.map (fun _ => true) ++ [false] ++ qs.map (fun _ => true), rfl, e, ?_, ?_, fun i y hy => ?_, ?_⟩
  · simp only [List.length_append, kW_len, List.length_singleton]; omega
  · simp only [List.length_append, kW_len, List.length_singleton, List.length_map]
  · have hp : (kW ps).length = ps.length := kW_len ps
    have hpt : (ps.map fun _ => true).length = ps.length := List.length_map ..
    rw [List.append_assoc] at hy ⊢
    by_cases h1 : i < ps.length
    · rw [List.getElem?_append_left (by omega)] at hy
      rw [List.getElem?_append_left (by omega)]
      exact ⟨true, by rw [List.getElem?_map, List.getElem?_eq_getElem h1]; rfl, walked_kW (List.mem_of_getElem? hy)⟩
    · rw [List.getElem?_append_right (by omega)] at hy
      rw [List.getElem?_append_right (by omega)]
      rw [hp] at hy
      rw [hpt]
      generalize i - ps.length = j at hy
      cases j with
      | zero =>
        have : x = y := by simpa using hy
        subst this
        exact ⟨false, rfl, hx⟩
      | succ j =>
        have hy' : (kW qs)[j]? = some y := by simpa using hy
        have hj := (List.getElem?_eq_some_iff.mp hy').1
        rw [kW_len] at hj
        exact ⟨true, by simp [hj], walked_kW (List.mem_of_getElem? hy')⟩
  · simp
section
variable {P : Program} {w : World} {K : PySem.W.Frag} {mg : Str → Option Value} {base : Heap}
theorem sc__law_spoilt : FnScope ["_law_dice_here", "_law_walk", "_law_at", "_law_thing"] ["_law_dice_here", "_law_walk"] (defScope dSpoilt.st) := ⟨rfl, rfl, rfl, by decide +kernel, rfl, by decide +kernel, by decide +kernel⟩
def spSpoilt : Sp := fun vs H Q _ => ∃ (d wr : Addr) (ks : List Bool), vs = [.ref d, .ref wr] ∧ DiceAt H d ∧ H wr = some (.tup (kW ks)) ∧ ks.length ≤ 100 ∧ ∀ H' v, Kd d H H' → DiceAt H' d → CourseV H' v false → Q v H'
theorem ok_law_spoilt (T : Txt K mg) : Cal P w K mg base 3 dSpoilt ["_law_dice_here", "_law_walk"] spSpoilt := by
  have C_law_roll := ok_law_roll (P := P) (w := w) (base := base) T
  have C_law_pick := ok_law_pick (P := P) (w := w) (base := base) T
  refine Cal.of T (List.mem_of_getElem? (i := 44) rfl) sc__law_spoilt (fun _ _ _ _ _ _ us hl => match us, hl with | [_, _], _ => rfl) (fun vs H Q E h => ?_) (fun cdv A outer st0 H vs Q E hr h => ?_)
  · obtain ⟨d, wr, ks, rfl, _⟩ := h
    rfl
  · obtain ⟨d, wr, ks, rfl, D, ew, hk, q⟩ := h
    refine ⟨_, PSs.nox (pss_cons (ps_set (i := 2) sc__law_spoilt.nd rfl (Or.inl rfl) (pe_cal C_law_roll (hr.mono (by decide)) (T.g "_law_roll") (pa_cons (pv 0) (pa_cons (pe_op op_add (pe_callB call_len_seq (by rfl) (T.f "len") PySem.boot_len (pa_cons (pv 1) pa_nil)) pe_int) pa_nil))))
      (pss_cons (ps_set (i := 3) sc__law_spoilt.nd rfl (Or.inl rfl) (pe_cal C_law_pick (hr.mono (by decide)) (T.g "_law_pick") (pa_cons (pv 0) (pa_cons (pe_lst (pa_cons pe_str (pa_cons pe_str (pa_cons pe_str (pa_cons pe_non (pa_cons pe_int (pa_cons pe_bl (pa_cons (pe_tup (pa_cons pe_str pa_nil)) (pa_cons (pe_lst pa_nil) pa_nil))))))))) pa_nil))))
      (pss_one (ps_ret (pe_cal C_law_pick (hr.mono (by decide)) (T.g "_law_pick") (pa_cons (pv 0) (pa_cons (pe_lst (pa_cons (pe_op op_catA (pe_op op_catA (pe_slice sl_tupA (pv 1) po_none (po_some (pv 2))) (pe_tup (pa_cons (pv 3) pa_nil))) (pe_slice sl_tupA (pv 1) (po_some (pv 2)) po_none)) (pa_cons (pe_op op_cat (pe_callTy call_list_of (by rfl) (T.f "list") (by decide +kernel) (pa_cons (pv 1) pa_nil)) (pe_lst (pa_cons pe_str pa_nil))) (pa_cons pe_non (pa_cons pe_str (pa_cons pe_int (pa_cons pe_dnewK (pa_cons (pe_tup (pa_cons (pv 1) (pa_cons (pv 1) pa_nil))) pa_nil)))))))) pa_nil))))))), ?_⟩
    have big := size_big
    have hkl := kW_len ks
    have eqn : [V.ref d, V.int (((kW ks).length : Nat) + 1)] = [V.ref d, V.int ((ks.length + 1 : Nat) : Int)] := by rw [hkl]; rfl
    refine ⟨_, rfl, _, rfl, wr, _, rfl, .inr (SqT.of ew), _, _, rfl, rfl, d, ks.length + 1, eqn, D, by omega, by omega, fun H1 r k1 D1 hr1 => ?_⟩
    have ew1 := k1.tup D.x ew
    refine ⟨_, rfl, by show 1 ≤ _; omega, fun tu ntu => ⟨Nat.zero_le _, fun l0 nl0 => ⟨by show 8 ≤ _; omega, fun L nL => ?_⟩⟩⟩
    have s1 : Same H1 (upd H1 tu (.tup [.str "upper"])) := same_upd ntu
    have etu : (upd H1 tu (.tup [.str "upper"])) tu = some (.tup [.str "upper"]) := upd_same
    have D2 := D1.same s1
    generalize upd H1 tu (.tup [.str "upper"]) = H2 at s1 etu D2 nl0 nL
    have hl0d := dice_ne D2 nl0
    have s2 : Same H2 (upd H2 l0 (.lst [])) := same_upd nl0
    have el0 : (upd H2 l0 (.lst [])) l0 = some (.lst []) := upd_same
    have D3 := D2.same s2
    have etu3 := s2 _ _ etu
    generalize upd H2 l0 (.lst []) = H3 at s2 el0 D3 etu3 nL
    have hLd := dice_ne D3 nL
    refine ⟨d, L, _, rfl, dice_upd D3 hLd, hLd, upd_same, by show 0 < 8; decide, by show 8 ≤ 1000; decide, fun H4 th k4 D4 hth => ?_⟩
    have s34 : Same H3 (upd H3 L (.lst [.str "even", .str "Upper", .str "", .non, .int 1, .bl true, .ref tu, .ref l0])) := same_upd nL
    have k14 : Kd d H1 H4 := (Same.kd ((s1.trans s2).trans s34)).trans k4
    have wth : WalkedV H4 th false ∧ th ≠ .ref d := by
      simp only [List.mem_cons, List.not_mem_nil, or_false] at hth
      rcases hth with rfl | rfl | rfl | rfl | rfl | rfl | rfl | rfl
      · exact ⟨.inl ⟨_, rfl, by decide⟩, fun z => nomatch z⟩
      · exact ⟨.inl ⟨_, rfl, by decide⟩, fun z => nomatch z⟩
      · exact ⟨.inl ⟨_, rfl, by decide⟩, fun z => nomatch z⟩
      · exact ⟨.inr ⟨rfl, _, .non, by decide⟩, fun z => nomatch z⟩
      · exact ⟨.inr ⟨rfl, _, .int 1, by decide⟩, fun z => nomatch z⟩
      · exact ⟨.inr ⟨rfl, _, .bl true, by decide⟩, fun z => nomatch z⟩
      · exact ⟨.inr ⟨rfl, _, .tup (k4.tup (dice_upd (o := .lst [.str "even", .str "Upper", .str "", .non, .int 1, .bl true, .ref tu, .ref l0]) D3 hLd).x (s34 _ _ etu3)), by decide⟩, fun z => by
          injection z with z
          rw [z] at etu
          obtain ⟨_, _, _, e⟩ := D2
          rw [etu] at e
          cases e⟩
      · exact ⟨.inr ⟨rfl, _, .lst (k4 _ _ hl0d (s34 _ _ el0)), by decide⟩, fun z => hl0d (by injection z)⟩
    have ew4 := k14.tup D1.x ew1
    have k04 : Kd d H H4 := k1.trans k14
    obtain ⟨wth, hthd⟩ := wth
    have hri : r ≤ (kW ks).length := by omega
    have c1 : cutV (kW ks) none (some ((r : Nat) : Int)) = kW (ks.take r) := by
      rw [cut_to _ _ hri]
      simp [kW, List.map_take]
    have c2 : cutV (kW ks) (some ((r : Nat) : Int)) none = kW (ks.drop r) := by
      rw [cut_from _ _ hri]
      simp [kW, List.map_drop]
    have lt1 : (ks.take r).length ≤ 100 := by rw [List.length_take]; omega
    have lt2 : (ks.drop r).length ≤ 100 := by rw [List.length_drop]; omega
    refine ⟨_, rfl, _, rfl, _, rfl, _, rfl, slA ew4 fun H5 a1 s5 e5 => ?_⟩
    rw [c1] at e5
    refine ⟨_, rfl, by show 1 ≤ _; omega, fun a2 na2 => ?_⟩
    have s6 : Same H5 (upd H5 a2 (.tup [th])) := same_upd na2
    refine catA_of (s6 _ _ e5) upd_same (by rw [kW_len]; show _ + 1 ≤ _; omega) fun H7 a3 s7 e7 => ?_
    have s57 := (s5.trans s6).trans s7
    refine ⟨_, rfl, _, rfl, _, rfl, ?_⟩
    unfold tNoPart
    refine slA (K := K) (s57 _ _ ew4) fun H8 a4 s8 e8 => ?_
    rw [c2] at e8
    refine catA_of (s8 _ _ e7) e8 (by rw [List.length_append, kW_len, kW_len]; show _ + 1 + _ ≤ _; omega) fun H9 big1 s9 e9 => ?_
    have s49 := (s57.trans s8).trans s9
    refine ⟨_, rfl, wr, _, rfl, .inr (SqT.of (s49 _ _ ew4)), fun l1 nl1 => ⟨by show 1 ≤ _; omega, fun l2 nl2 => ?_⟩⟩
    have D9 := D4.same s49
    have s10 : Same H9 (upd H9 l1 (.lst (kW ks))) := same_upd nl1
    have e10 : (upd H9 l1 (.lst (kW ks))) l1 = some (.lst (kW ks)) := upd_same
    generalize upd H9 l1 (.lst (kW ks)) = H10 at s10 e10 nl2
    have s11 : Same H10 (upd H10 l2 (.lst [.str "upper"])) := same_upd nl2
    refine ⟨l1, l2, _, _, rfl, rfl, s11 _ _ e10, upd_same, by rw [kW_len]; show _ + 1 ≤ _; omega, fun l3 nl3 => ?_⟩
    generalize upd H10 l2 (.lst [.str "upper"]) = H11 at s11 nl3
    have s12 : Same H11 (upd H11 l3 (.lst (kW ks ++ [.str "upper"]))) := same_upd nl3
    have D11 := (D9.same s10).same s11
    have hl3d := dice_ne D11 nl3
    have e12 : (upd H11 l3 (.lst (kW ks ++ [.str "upper"]))) l3 = some (.lst (kW ks ++ [.str "upper"])) := upd_same
    have D12 := D11.same s12
    generalize upd H11 l3 (.lst (kW ks ++ [.str "upper"])) = H12 at s12 e12 D12
    intro dn ndn
    have s13 : Same H12 (upd H12 dn (.dK [])) := same_upd ndn
    have e13 : (upd H12 dn (.dK [])) dn = some (.dK []) := upd_same
    have D13 := D12.same s13
    have e12' := s13 _ _ e12
    generalize upd H12 dn (.dK []) = H13 at s13 e13 D13 e12'
    refine ⟨_, rfl, _, rfl, by show 2 ≤ _; omega, fun pr npr => ⟨by show 7 ≤ _; omega, fun M nM => ?_⟩⟩
    have s14 : Same H13 (upd H13 pr (.tup [.ref wr, .ref wr])) := same_upd npr
    have e14 : (upd H13 pr (.tup [.ref wr, .ref wr])) pr = some (.tup [.ref wr, .ref wr]) := upd_same
    have D14 := D13.same s14
    have e12'' := s14 _ _ e12'
    have e13' := s14 _ _ e13
    generalize upd H13 pr (.tup [.ref wr, .ref wr]) = H14 at s14 e14 D14 e12'' e13' nM
    have hMd := dice_ne D14 nM
    have s15 : Same H14 (upd H14 M (.lst [.ref big1, .ref l3, .non, .str "upper", .int 0, .ref dn, .ref pr])) := same_upd nM
    refine ⟨d, M, _, rfl, dice_upd D14 hMd, hMd, upd_same, by show 0 < 7; decide, by show 7 ≤ 1000; decide, fun H16 v k16 D16 hv => ?_⟩
    have D15 := D14.same s15
    have s9_15 : Same H9 (upd H14 M (.lst [.ref big1, .ref l3, .non, .str "upper", .int 0, .ref dn, .ref pr])) := ((((s10.trans s11).trans s12).trans s13).trans s14).trans s15
    have x15 := D15.x
    refine q H16 v ((k04.same (s49.trans s9_15)).trans k16) D16 ?_
    simp only [List.mem_cons, List.not_mem_nil, or_false] at hv
    rcases hv with rfl | rfl | rfl | rfl | rfl | rfl | rfl
    · refine course_bad (ps := ks.take r) (qs := ks.drop r) (x := th) (k16.tup x15 (s9_15 _ _ e9)) (by omega) ?_
      exact (wth.same (s49.trans s9_15)).kd k16 D15 hthd
    · exact .inr ⟨rfl, _, .lst (k16 _ _ hl3d (s15 _ _ e12'')), by decide⟩
    · exact .inr ⟨rfl, _, .non, by decide⟩
    · exact .inr ⟨rfl, _, .str _, by decide⟩
    · exact .inr ⟨rfl, _, .int 0, by decide⟩
    · obtain ⟨_, _, _, ed⟩ := D15
      exact .inr ⟨rfl, _, .dK (kd_get k16 ed (s15 _ _ e13') (fun _ z => nomatch z)), by decide⟩
    · refine .inl ⟨pr, _, [false, false], rfl, k16.tup x15 (s15 _ _ e14), by show 2 ≤ 4000; decide, rfl, fun i y hy => ?_, rfl⟩
      have ewr : H16 wr = some (.tup (kW ks)) := k16.tup x15 (s9_15 _ _ (s49 _ _ ew4))
      have wy : WalkedV H16 (.ref wr) false := .inr ⟨rfl, _, .tup ewr, by decide⟩
      match i, hy with
      | 0, h => cases h; exact ⟨false, rfl, wy⟩
      | 1, h => cases h; exact ⟨false, rfl, wy⟩
theorem sc__law_goes : FnScope ["_law_one", "_law_other", "_law_walk", "_law_here", "_law_kind"] ["_law_one", "_law_other", "_law_walk"] (defScope dGoes.st) := ⟨rfl, rfl, rfl, by decide +kernel, rfl, by decide +kernel, by decide +kernel⟩
def spGoes (K : PySem.W.Frag) : Sp := fun vs H Q _ => ∃ (a b wr : Addr) (u l u' l' : List Str) (ks : List Bool), vs = [.ref a, .ref b, .ref wr] ∧ OrdAt K H a u l ∧ OrdAt K H b u' l' ∧ H wr = some (.tup (kW ks)) ∧ ∀ H', Same H H' → Q (.bl (decide (K49.run (K49.placesOf u l) ks = K49.placesOf u' l'))) H'
theorem ok_law_goes (T : Txt K mg) : Cal P w K mg base 3 dGoes ["_law_one", "_law_other", "_law_walk"] (spGoes K) := by
  have C_law_moved_places := ok_law_moved_places (P := P) (w := w) (base := base) T
  have C_places := ok_places (P := P) (w := w) (base := base) T
  refine Cal.of T (List.mem_of_getElem? (i := 45) rfl) sc__law_goes (fun _ _ _ _ _ _ us hl => match us, hl with | [_, _, _], _ => rfl) (fun vs H Q E h => ?_) (fun cdv A outer st0 H vs Q E hr h => ?_)
  · obtain ⟨a, b, wr, u, l, u', l', ks, rfl, _⟩ := h
    rfl
  · obtain ⟨a, b, wr, u, l, u', l', ks, rfl, O, O', ew, q⟩ := h
    refine ⟨_, PSs.nox (pss_cons (ps_set (i := 3) sc__law_goes.nd rfl (Or.inl rfl) (SlX.pe_propSl (CX := CX0) (E := E0) (pv 0) T.cls (T.pat "places" (by decide)).1 (T.pat "places" (by decide)).2.1 (T.pat "places" (by decide)).2.2.1 (T.pat "places" (by decide)).2.2.2 C_places.r (hr.mono (by decide)) (fun _ _ _ _ z => z.elim)))
      (pss_cons (ps_for PassesOwn.never rfl (pi_tup (pv 2)) (pg_name (i := 4) sc__law_goes.nd rfl (Or.inl rfl))
      (pss_one (ps_set (i := 3) sc__law_goes.nd rfl (Or.inl rfl) (pe_cal C_law_moved_places (hr.mono (by decide)) (T.g "_law_moved_places") (pa_cons (pv 3) (pa_cons (pv 4) pa_nil))))))
      (pss_one (ps_ret (pe_cmpR (op_eqD hr.units) (pv 3) (SlX.pe_propSl (CX := CX0) (E := E0) (pv 1) T.cls (T.pat "places" (by decide)).1 (T.pat "places" (by decide)).2.1 (T.pat "places" (by decide)).2.2.1 (T.pat "places" (by decide)).2.2.2 C_places.r (hr.mono (by decide)) (fun _ _ _ _ z => z.elim)) (nomark _)))))), ?_⟩
    have big := size_big
    obtain ⟨R, dx, vs, up, lo, pl, ua, S, _⟩ := id O
    refine ⟨_, rfl, a, dx, vs, rfl, S, a, u, l, rfl, O, fun r p => ?_⟩
    refine ⟨_, rfl, wr, rfl, ⟨_, SqT.of ew⟩, for_tup (xs := kW ks) (fun i σ H3 => ∃ r y4, σ = [some (.ref a), some (.ref b), some (.ref wr), some (.ref r), y4] ∧ Same H H3 ∧ PT H3 r (K49.run (K49.placesOf u l) (ks.take i)))
      ⟨r, none, rfl, Same.refl _, p⟩ (fun i σ H3 _ ⟨_, _, _, sm, _⟩ => SqT.of (sm _ _ ew)) (fun i v σ H3 hv hp => ?_) (fun σ H3 hp => ?_)⟩
    · obtain ⟨r, y4, rfl, sm, pr⟩ := hp
      obtain ⟨k, hk, rfl⟩ := kW_at hv
      refine ⟨_, rfl, _, rfl, r, _, _, k, rfl, pr, R.good.run _, fun H4 r4 s4 p4 => ⟨r4, _, rfl, sm.trans s4, ?_⟩⟩
      have e : ks.take (i + 1) = ks.take i ++ [k] := by rw [List.take_add_one, hk]; rfl
      rw [e, K49.run_append]
      exact p4
    · obtain ⟨r, y4, rfl, sm, pr⟩ := hp
      rw [List.take_of_length_le (by rw [kW_len]; exact Nat.le_refl _)] at pr
      obtain ⟨R', dx', vs', up', lo', pl', ua', S', _⟩ := same_ord sm O'
      refine ⟨_, rfl, _, rfl, b, dx', vs', rfl, S', b, u', l', rfl, same_ord sm O', fun r2 p2 => ⟨_, _, .tup pr.sq (dpI _), .tup p2.sq (dpI _), shTI _, shTI _, ?_⟩⟩
      show Q (.bl (PyData.eqvAll (dI _) (dI _))) H3
      rw [eqI]
      exact q _ sm
end
end R49
set_option Elab.async false
set_option linter.all false
set_option maxRecDepth 100000
set_option maxHeartbeats 8000000
namespace R49
open PySem PySem.Spec PyProof.Rows L2
/-
0=_law_dice_here 1=_law_one 2=_law_other 3=_law_reached 4=_law_fewest 5=_law_walk 6=_law_longer 7=_law_back 8=_law_more
-/
section
variable {P : Program} {w : World} {K : PySem.W.Frag} {mg : Str → Option Value} {base : Heap}
theorem sc__law_right : FnScope ["_law_dice_here", "_law_one", "_law_other", "_law_reached", "_law_fewest", "_law_walk", "_law_longer", "_law_back", "_law_more"] ["_law_dice_here"] (defScope dRight.st) := ⟨rfl, rfl, rfl, by decide +kernel, rfl, by decide +kernel, by decide +kernel⟩
def spRight : Sp := fun vs H Q _ => ∃ d, vs = [.ref d] ∧ DiceAt H d ∧ ∀ H', Kd d H H' → DiceAt H' d → Q (.bl true) H'
theorem ok_law_right (T : Txt K mg) : Cal P w K mg base 9 dRight ["_law_dice_here"] spRight := by
  have C_law_pair_drawn := ok_law_pair_drawn (P := P) (w := w) (base := base) T
  have C_law_class_reached := ok_law_class_reached (P := P) (w := w) (base := base) T
  have C_walk_between := ok_walk_between (P := P) (w := w) (base := base) T
  have C_are_joined := ok_are_joined (P := P) (w := w) (base := base) T
  have C_is_walk := ok_is_walk (P := P) (w := w) (base := base) T
  have C_law_spoilt := ok_law_spoilt (P := P) (w := w) (base := base) T
  have C_law_walk_drawn := ok_law_walk_drawn (P := P) (w := w) (base := base) T
  have C_law_roll := ok_law_roll (P := P) (w := w) (base := base) T
  have C_law_goes := ok_law_goes (P := P) (w := w) (base := base) T
  have C_order_behind := ok_order_behind (P := P) (w := w) (base := base) T
  have C_places := ok_places (P := P) (w := w) (base := base) T
  refine Cal.of T (List.mem_of_getElem? (i := 46) rfl) sc__law_right (fun _ _ _ _ _ _ us hl => match us, hl with | [_], _ => rfl) (fun vs H Q E h => ?_) (fun cdv A outer st0 H vs Q E hr h => ?_)
  · obtain ⟨d, rfl, _⟩ := h
    rfl
  · obtain ⟨d, rfl, D, q⟩ := h
    refine ⟨_, PSs.nox (pss_cons (ps_asg (pe_cal C_law_pair_drawn (hr.mono (by decide)) (T.g "_law_pair_drawn") (pa_cons (pv 0) pa_nil)) (pg_tup rfl (pgs_cons (pg_name (i := 1) sc__law_right.nd rfl (Or.inl rfl)) (pgs_cons (pg_name (i := 2) sc__law_right.nd rfl (Or.inl rfl)) pgs_nil))))
      (pss_cons (ps_set (i := 3) sc__law_right.nd rfl (Or.inl rfl) (pe_cal C_law_class_reached (hr.mono (by decide)) (T.g "_law_class_reached") (pa_cons (SlX.pe_propSl (CX := CX0) (E := E0) (pv 1) T.cls (T.pat "places" (by decide)).1 (T.pat "places" (by decide)).2.1 (T.pat "places" (by decide)).2.2.1 (T.pat "places" (by decide)).2.2.2 C_places.r (hr.mono (by decide)) (fun _ _ _ _ z => z.elim)) (pa_cons pe_int pa_nil))))
      (pss_cons (ps_set (i := 4) sc__law_right.nd rfl (Or.inl rfl) (pe_ifExp (pt_cmpR (op_xin (hu_of hr)) (SlX.pe_propSl (CX := CX0) (E := E0) (pv 2) T.cls (T.pat "places" (by decide)).1 (T.pat "places" (by decide)).2.1 (T.pat "places" (by decide)).2.2.1 (T.pat "places" (by decide)).2.2.2 C_places.r (hr.mono (by decide)) (fun _ _ _ _ z => z.elim)) (pv 3) (by rfl)) (pe_xget (hu_of hr) (pv 3) (SlX.pe_propSl (CX := CX0) (E := E0) (pv 2) T.cls (T.pat "places" (by decide)).1 (T.pat "places" (by decide)).2.1 (T.pat "places" (by decide)).2.2.1 (T.pat "places" (by decide)).2.2.2 C_places.r (hr.mono (by decide)) (fun _ _ _ _ z => z.elim)) (fun _ _ => rfl)) pe_non))
      (pss_cons (ps_set (i := 5) sc__law_right.nd rfl (Or.inl rfl) (pe_cal C_walk_between (hr.mono (by decide)) (T.g "walk_between") (pa_cons (pv 1) (pa_cons (pv 2) pa_nil))))
      (pss_cons (ps_if (PW.pt (pw_or (pt_cmpR op_ne (pe_cal C_are_joined (hr.mono (by decide)) (T.g "are_joined") (pa_cons (pv 1) (pa_cons (pv 2) pa_nil))) (pe_cmpR op_notN (pv 4) pe_non (nomark _)) (nomark _)) (pw_or1 (pt_cmpR op_ne (pe_cal C_are_joined (hr.mono (by decide)) (T.g "are_joined") (pa_cons (pv 2) (pa_cons (pv 1) pa_nil))) (pe_cmpR op_notN (pv 4) pe_non (nomark _)) (nomark _)))))
      (pss_one (ps_ret pe_bl))
      pss_nil)
      (pss_cons (ps_if (PW.pt (pw_or (pt_cmpR op_ne (pe_cmpR op_isN (pv 5) pe_non (nomark _)) (pe_cmpR op_isN (pv 4) pe_non (nomark _)) (nomark _)) (pw_or1 (pt_val (pe_cal C_is_walk (hr.mono (by decide)) (T.g "is_walk") (pa_cons (pv 1) (pa_cons (pv 2) (pa_cons (pe_cal C_law_spoilt (hr.mono (by decide)) (T.g "_law_spoilt") (pa_cons (pv 0) (pa_cons (pe_ifExp (pt_cmpR op_isN (pv 5) pe_non (nomark _)) (pe_tup pa_nil) (pv 5)) pa_nil))) pa_nil))))))))
      (pss_one (ps_ret pe_bl))
      pss_nil)
      (pss_cons (ps_set (i := 6) sc__law_right.nd rfl (Or.inl rfl) (pe_cal C_law_walk_drawn (hr.mono (by decide)) (T.g "_law_walk_drawn") (pa_cons (pv 0) (pa_cons (pe_op op_add pe_int (pe_cal C_law_roll (hr.mono (by decide)) (T.g "_law_roll") (pa_cons (pv 0) (pa_cons pe_int pa_nil)))) pa_nil))))
      (pss_cons (ps_if (pt_cmpR op_ne (pe_cal C_is_walk (hr.mono (by decide)) (T.g "is_walk") (pa_cons (pv 1) (pa_cons (pv 2) (pa_cons (pv 6) pa_nil)))) (pe_cal C_law_goes (hr.mono (by decide)) (T.g "_law_goes") (pa_cons (pv 1) (pa_cons (pv 2) (pa_cons (pv 6) pa_nil)))) (nomark _))
      (pss_one (ps_ret pe_bl))
      pss_nil)
      (pss_cons (ps_if (pt_cmpR op_isN (pv 5) pe_non (nomark _))
      (pss_one (ps_ret (pe_cmpR op_isN (pe_cal C_walk_between (hr.mono (by decide)) (T.g "walk_between") (pa_cons (pv 2) (pa_cons (pv 1) pa_nil))) pe_non (nomark _))))
      pss_nil)
      (pss_cons (ps_set (i := 7) sc__law_right.nd rfl (Or.inl rfl) (pe_cal C_walk_between (hr.mono (by decide)) (T.g "walk_between") (pa_cons (pv 2) (pa_cons (pv 1) pa_nil))))
      (pss_cons (ps_if (PW.pt (pw_or (pt_cmpR op_ne (pe_callB call_len_seq (by rfl) (T.f "len") PySem.boot_len (pa_cons (pv 5) pa_nil)) (pv 4) (nomark _)) (pw_or (pt_not (pt_val (pe_cal C_is_walk (hr.mono (by decide)) (T.g "is_walk") (pa_cons (pv 1) (pa_cons (pv 2) (pa_cons (pv 5) pa_nil)))))) (pw_or1 (pt_not (pt_val (pe_cal C_law_goes (hr.mono (by decide)) (T.g "_law_goes") (pa_cons (pv 1) (pa_cons (pv 2) (pa_cons (pv 5) pa_nil))))))))))
      (pss_one (ps_ret pe_bl))
      pss_nil)
      (pss_cons (ps_if (PW.pt (pw_or (pt_not (pt_val (pe_cal C_is_walk (hr.mono (by decide)) (T.g "is_walk") (pa_cons (pv 1) (pa_cons (pv 1) (pa_cons (pe_op op_catA (pv 5) (pv 7)) pa_nil)))))) (pw_or (pt_not (pt_val (pe_cal C_is_walk (hr.mono (by decide)) (T.g "is_walk") (pa_cons (pv 2) (pa_cons (pv 1) (pa_cons (pv 7) pa_nil)))))) (pw_or1 (pt_not (pt_val (pe_cal C_is_walk (hr.mono (by decide)) (T.g "is_walk") (pa_cons (pv 1) (pa_cons (pv 2) (pa_cons (pe_op op_catA (pe_op op_catA (pv 5) (pv 7)) (pv 5)) pa_nil))))))))))
      (pss_one (ps_ret pe_bl))
      pss_nil)
      (pss_cons (ps_set (i := 8) sc__law_right.nd rfl (Or.inl rfl) (pe_cal C_order_behind (hr.mono (by decide)) (T.g "order_behind") (pa_cons (pv 1) (pa_cons (pe_op op_catA (pv 5) (pv 6)) pa_nil))))
      (pss_one (ps_ret (pe_and (pe_cmpR (op_eqD hr.units) (SlX.pe_propSl (CX := CX0) (E := E0) (pe_cal C_order_behind (hr.mono (by decide)) (T.g "order_behind") (pa_cons (pv 1) (pa_cons (pv 5) pa_nil))) T.cls (T.pat "places" (by decide)).1 (T.pat "places" (by decide)).2.1 (T.pat "places" (by decide)).2.2.1 (T.pat "places" (by decide)).2.2.2 C_places.r (hr.mono (by decide)) (fun _ _ _ _ z => z.elim)) (SlX.pe_propSl (CX := CX0) (E := E0) (pv 2) T.cls (T.pat "places" (by decide)).1 (T.pat "places" (by decide)).2.1 (T.pat "places" (by decide)).2.2.1 (T.pat "places" (by decide)).2.2.2 C_places.r (hr.mono (by decide)) (fun _ _ _ _ z => z.elim)) (nomark _)) (pe_one (pe_cal C_is_walk (hr.mono (by decide)) (T.g "is_walk") (pa_cons (pv 1) (pa_cons (pv 8) (pa_cons (pe_op op_catA (pv 5) (pv 6)) pa_nil))))))))))))))))))))), ?_⟩
    have big := size_big
    refine ⟨_, rfl, d, rfl, D, fun H1 t x y u l u' l' k1 D1 et O O' hu => ⟨t, _, rfl, SqT.of et, rfl, _, _, rfl, _, _, rfl, rfl, ?_⟩⟩
    obtain ⟨R, dx, vs, up, lo, pl, ua, S, _⟩ := id O
    obtain ⟨R', dx', vs', up', lo', pl', ua', S', _⟩ := id O'
    have G := R.good
    have G' : K49.Good u.length (K49.placesOf u' l') := hu ▸ R'.good
    have hsym := K49.walk_symm G G'
    have hdist := K49.walk_dist (g := K49.placesOf u' l') G
    refine ⟨_, rfl, x, dx, vs, rfl, S, x, u, l, rfl, O, fun r1 p1 => ⟨r1, _, _, rfl, p1, G, fun H2 rd s2 fn => ?_⟩⟩
    have O2 := same_ord s2 O
    have O2' := same_ord s2 O'
    have D2 := D1.same s2
    have k2 := k1.same s2
    obtain ⟨kvs, dxx, pk⟩ := id fn
    refine ⟨_, rfl, y, dx', vs', rfl, same_slt s2 S', y, u', l', rfl, O2', fun r2 p2 => ⟨_, rfl, r2, rd, kvs, iK (K49.placesOf u' l'), rfl, rfl, dxx, p2, _, rfl, ?_⟩⟩
    rcases fn_val pk (K49.placesOf u' l') with ⟨hv, _, hi⟩ | ⟨xx, hv, hi⟩
    · -- no way
      have hd0 : K49.distB (K49.placesOf u l) (K49.placesOf u' l') = none := by unfold K49.distB; rw [hi]; rfl
      have hw : K49.walkB (K49.placesOf u l) (K49.placesOf u' l') = none := by
        rw [hd0] at hdist
        exact Option.isSome_eq_false_iff.mp hdist |> Option.isNone_iff_eq_none.mp
      have hw' : K49.walkB (K49.placesOf u' l') (K49.placesOf u l) = none := by
        rw [hw] at hsym
        exact Option.isSome_eq_false_iff.mp hsym.symm |> Option.isNone_iff_eq_none.mp
      refine itF (by rw [hv]; rfl) ?_
      refine ⟨_, rfl, _, rfl, x, y, u, l, u', l', rfl, O2, O2', fun _ H3 s3 => ?_, fun ks e => by rw [hw] at e; cases e⟩
      have O3 := same_ord s3 O2
      have O3' := same_ord s3 O2'
      have D3 := D2.same s3
      have k3 := k2.same s3
      refine ⟨_, rfl, _, rfl, x, y, u, l, u', l', rfl, O3, O3', fun H4 s4 => ⟨_, rfl, rfl, rfl, _, rfl, itF (by rw [hw]; rfl) ?_⟩⟩
      refine ⟨_, rfl, _, rfl, y, x, u', l', u, l, rfl, same_ord s4 O3', same_ord s4 O3, fun H5 s5 => ⟨_, rfl, rfl, rfl, _, rfl, itF (by rw [hw']; rfl) ?_⟩⟩
      have s35 := s4.trans s5
      have O5 := same_ord s35 O3
      have O5' := same_ord s35 O3'
      have D5 := D3.same s35
      have k5 := k3.same s35
      refine ⟨_, rfl, rfl, _, rfl, rfl, rfl, _, rfl, itF rfl ?_⟩
      refine ⟨_, rfl, _, rfl, _, rfl, _, rfl, rfl, _, rfl, itT rfl ⟨Nat.zero_le _, fun tp ntp => ?_⟩⟩
      have s6 : Same H5 (upd H5 tp (.tup [])) := same_upd ntp
      refine ⟨d, tp, [], rfl, D5.same s6, upd_same, by decide, fun H7 v k7 D7 cv => ?_⟩
      have O7 := ord_kd k7 (D5.same s6) (same_ord s6 O5)
      have O7' := ord_kd k7 (D5.same s6) (same_ord s6 O5')
      have k07 := (k5.same s6).trans k7
      refine ⟨x, y, v, u, l, u', l', rfl, O7, O7', .inr ⟨cv, fun H8 s8 => ⟨_, rfl, itF rfl ?_⟩⟩⟩
      have O8 := same_ord s8 O7
      have O8' := same_ord s8 O7'
      have D8 := D7.same s8
      have k8 := k07.same s8
      refine ⟨_, rfl, _, rfl, d, 4, rfl, D8, by omega, by omega, fun H9 r k9 D9 hr9 => ⟨_, _, rfl, rfl, d, 1 + r, congrArg (fun z : Int => [V.ref d, V.int z]) (show (1 : Int) + (r : Nat) = ((1 + r : Nat) : Int) by omega), D9, by omega, fun Ha wl ls ka Da ewl hls => ?_⟩⟩
      have Oa := ord_kd ka D9 (ord_kd k9 D8 O8)
      have Oa' := ord_kd ka D9 (ord_kd k9 D8 O8')
      have k0a := (k8.trans k9).trans ka
      refine ⟨_, rfl, _, rfl, _, rfl, x, y, .ref wl, u, l, u', l', rfl, Oa, Oa', .inl ⟨wl, ls, rfl, ewl, by omega, fun Hb sb => ⟨_, rfl, _, rfl, _, rfl, x, y, wl, u, l, u', l', ls, rfl, same_ord sb Oa, same_ord sb Oa', sb _ _ ewl, fun Hc sc => ⟨rfl, _, rfl, itF (by simp) ?_⟩⟩⟩⟩
      have sbc := sb.trans sc
      refine ⟨_, rfl, rfl, _, rfl, itT rfl ?_⟩
      refine ⟨_, rfl, _, rfl, y, x, u', l', u, l, rfl, same_ord sbc Oa', same_ord sbc Oa, fun _ Hd sd => ⟨rfl, q Hd (k0a.same (sbc.trans sd)) (Da.same (sbc.trans sd))⟩, fun ks e => by rw [hw'] at e; cases e⟩
    · -- a way
      have hd0 : K49.distB (K49.placesOf u l) (K49.placesOf u' l') = some xx.1 := by unfold K49.distB; rw [hi]; rfl
      obtain ⟨ks, hw⟩ : ∃ ks, K49.walkB (K49.placesOf u l) (K49.placesOf u' l') = some ks := by
        rw [hd0] at hdist
        exact Option.isSome_iff_exists.mp hdist
      obtain ⟨bs, hw'⟩ : ∃ bs, K49.walkB (K49.placesOf u' l') (K49.placesOf u l) = some bs := by
        rw [hw] at hsym
        exact Option.isSome_iff_exists.mp hsym.symm
      obtain ⟨w1, w2, w3⟩ := K49.walk_some G hw
      obtain ⟨_, b2, b3⟩ := K49.walk_some G' hw'
      have hxx : xx.1 = ks.length := by
        rw [hd0] at w1
        exact Option.some.inj w1
      refine itT (by rw [hv]; rfl) ?_
      refine ⟨_, rfl, _, rfl, y, dx', vs', rfl, same_slt s2 S', y, u', l', rfl, O2', fun r3 p3 => ⟨rd, r3, kvs, iK (K49.placesOf u' l'), _, rfl, rfl, dxx, p3, hv, ?_⟩⟩
      refine ⟨_, rfl, _, rfl, x, y, u, l, u', l', rfl, O2, O2', (fun e => by rw [hw] at e; cases e), fun ks' e H3 wk s3 ewk => ?_⟩
      obtain rfl : ks' = ks := by
        rw [hw] at e
        exact (Option.some.inj e).symm
      have O3 := same_ord s3 O2
      have O3' := same_ord s3 O2'
      have D3 := D2.same s3
      have k3 := k2.same s3
      refine ⟨_, rfl, _, rfl, x, y, u, l, u', l', rfl, O3, O3', fun H4 s4 => ⟨_, rfl, rfl, rfl, _, rfl, itF (by rw [hw]; rfl) ?_⟩⟩
      refine ⟨_, rfl, _, rfl, y, x, u', l', u, l, rfl, same_ord s4 O3', same_ord s4 O3, fun H5 s5 => ⟨_, rfl, rfl, rfl, _, rfl, itF (by rw [hw']; rfl) ?_⟩⟩
      have s35 := s4.trans s5
      have O5 := same_ord s35 O3
      have O5' := same_ord s35 O3'
      have D5 := D3.same s35
      have k5 := k3.same s35
      have ewk5 := s35 _ _ ewk
      refine ⟨_, rfl, rfl, _, rfl, rfl, rfl, _, rfl, itF rfl ?_⟩
      refine ⟨_, rfl, _, rfl, _, rfl, _, rfl, rfl, _, rfl, itF rfl ⟨_, rfl, ?_⟩⟩
      refine ⟨d, wk, _, rfl, D5, ewk5, by omega, fun H7 v k7 D7 cv => ?_⟩
      have O7 := ord_kd k7 D5 O5
      have O7' := ord_kd k7 D5 O5'
      have ewk7 := k7.tup D5.x ewk5
      have k07 := k5.trans k7
      refine ⟨x, y, v, u, l, u', l', rfl, O7, O7', .inr ⟨cv, fun H8 s8 => ⟨_, rfl, itF rfl ?_⟩⟩⟩
      have O8 := same_ord s8 O7
      have O8' := same_ord s8 O7'
      have D8 := D7.same s8
      have k8 := k07.same s8
      have ewk8 := s8 _ _ ewk7
      refine ⟨_, rfl, _, rfl, d, 4, rfl, D8, by omega, by omega, fun H9 r k9 D9 hr9 => ⟨_, _, rfl, rfl, d, 1 + r, congrArg (fun z : Int => [V.ref d, V.int z]) (show (1 : Int) + (r : Nat) = ((1 + r : Nat) : Int) by omega), D9, by omega, fun Ha wl ls ka Da ewl hls => ?_⟩⟩
      have Oa := ord_kd ka D9 (ord_kd k9 D8 O8)
      have Oa' := ord_kd ka D9 (ord_kd k9 D8 O8')
      have ewka := ka.tup D9.x (k9.tup D8.x ewk8)
      have k0a := (k8.trans k9).trans ka
      refine ⟨_, rfl, _, rfl, _, rfl, x, y, .ref wl, u, l, u', l', rfl, Oa, Oa', .inl ⟨wl, ls, rfl, ewl, by omega, fun Hb sb => ⟨_, rfl, _, rfl, _, rfl, x, y, wl, u, l, u', l', ls, rfl, same_ord sb Oa, same_ord sb Oa', sb _ _ ewl, fun Hc sc => ⟨rfl, _, rfl, itF (by simp) ?_⟩⟩⟩⟩
      have sbc := sb.trans sc
      have Oc := same_ord sbc Oa
      have Oc' := same_ord sbc Oa'
      have Dc := Da.same sbc
      have k0c := k0a.same sbc
      have ewkc := sbc _ _ ewka
      have ewlc := sbc _ _ ewl
      refine ⟨_, rfl, rfl, _, rfl, itF rfl ?_⟩
      refine ⟨_, rfl, _, rfl, y, x, u', l', u, l, rfl, Oc', Oc, (fun e => by rw [hw'] at e; cases e), fun bs' e Hd bk sd ebk => ?_⟩
      obtain rfl : bs' = bs := by
        rw [hw'] at e
        exact (Option.some.inj e).symm
      have Od := same_ord sd Oc
      have Od' := same_ord sd Oc'
      have ewkd := sd _ _ ewkc
      have ewld := sd _ _ ewlc
      refine ⟨_, rfl, wk, _, rfl, .inr (SqT.of ewkd), _, rfl, rfl, _, rfl, itF ?_ ?_⟩
      · rw [kW_len, hxx]
        simp
      refine ⟨_, rfl, _, rfl, _, rfl, x, y, .ref wk, u, l, u', l', rfl, Od, Od', .inl ⟨wk, _, rfl, ewkd, by omega, fun He se => ⟨_, rfl, itF (by rw [w2]; simp) ?_⟩⟩⟩
      refine ⟨_, rfl, _, rfl, _, rfl, x, y, wk, u, l, u', l', _, rfl, same_ord se Od, same_ord se Od', se _ _ ewkd, fun Hf sf => ⟨_, rfl, itF (by rw [w2]; simp) ?_⟩⟩
      have sef := se.trans sf
      have Of := same_ord sef Od
      have Of' := same_ord sef Od'
      have ewkf := sef _ _ ewkd
      have ewlf := sef _ _ ewld
      have ebkf := sef _ _ ebk
      have kcat : ∀ p q : List Bool, kW p ++ kW q = kW (p ++ q) := fun p q => by unfold kW; rw [List.map_append]
      have hks : (kW ks').length = ks'.length := kW_len ks'
      have hbs : (kW bs').length = bs'.length := kW_len bs'
      have hls' : (kW ls).length = ls.length := kW_len ls
      refine ⟨_, rfl, _, rfl, _, rfl, _, rfl, ?_⟩
      refine catA_of (K := K) ewkf ebkf (by omega) fun Hg r1 sg eg => ?_
      rw [kcat] at eg
      refine ⟨x, x, .ref r1, u, l, u, l, rfl, same_ord sg Of, same_ord sg Of, .inl ⟨r1, _, rfl, eg, by rw [List.length_append]; omega, fun Hh sh => ⟨_, rfl, itF (by rw [K49.run_append, w2, b2]; simp) ?_⟩⟩⟩
      have sgh := sg.trans sh
      refine ⟨_, rfl, _, rfl, _, rfl, y, x, .ref bk, u', l', u, l, rfl, same_ord sgh Of', same_ord sgh Of, .inl ⟨bk, _, rfl, sgh _ _ ebkf, by omega, fun Hi si => ⟨_, rfl, itF (by rw [b2]; simp) ?_⟩⟩⟩
      have sgi := sgh.trans si
      refine ⟨_, rfl, _, rfl, _, rfl, _, rfl, ?_⟩
      refine catA_of (K := K) (sgi _ _ ewkf) (sgi _ _ ebkf) (by omega) fun Hj r2 sj ej => ?_
      rw [kcat] at ej
      have hkb := kW_len (ks' ++ bs')
      rw [List.length_append] at hkb
      refine ⟨_, rfl, ?_⟩
      refine catA_of (K := K) ej (sj _ _ (sgi _ _ ewkf)) (by omega) fun Hk r3 sk ek => ?_
      rw [kcat] at ek
      have sgk := (sgi.trans sj).trans sk
      refine ⟨x, y, .ref r3, u, l, u', l', rfl, same_ord sgk Of, same_ord sgk Of', .inl ⟨r3, _, rfl, ek, by rw [List.length_append, List.length_append]; omega, fun Hl sl => ⟨_, rfl, itF (by rw [K49.run_append, K49.run_append, w2, b2, w2]; simp) ?_⟩⟩⟩
      have sgl := sgk.trans sl
      refine ⟨_, rfl, _, rfl, _, rfl, ?_⟩
      refine catA_of (K := K) (sgl _ _ ewkf) (sgl _ _ ewlf) (by omega) fun Hm r4 sm em => ?_
      rw [kcat] at em
      have sgm := sgl.trans sm
      refine ⟨x, r4, u, l, _, rfl, same_ord sgm Of, em, by rw [List.length_append]; omega, fun Hn mo sn Om => ?_⟩
      have sgn := sgm.trans sn
      refine ⟨_, rfl, _, rfl, x, wk, u, l, _, rfl, same_ord sgn Of, sgn _ _ ewkf, by omega, fun Ho ob so Oob => ?_⟩
      have sgo := sgn.trans so
      obtain ⟨_, dxb, vsb, _, _, _, _, Sb, _⟩ := id Oob
      have Oo' := same_ord sgo Of'
      obtain ⟨_, dxo, vso, _, _, _, _, So, _⟩ := id Oo'
      refine ⟨ob, dxb, vsb, rfl, Sb, ob, _, _, rfl, Oob, fun rp pp => ?_⟩
      refine ⟨_, rfl, y, dxo, vso, rfl, So, y, u', l', rfl, Oo', fun rq pq => ⟨_, _, .tup pp.sq (dpI _), .tup pq.sq (dpI _), shTI _, shTI _, _, rfl, itT ?_ ?_⟩⟩
      · show PyData.eqvAll (dI _) (dI _) = true
        rw [eqI, runR_places O.1, w2]
        simp
      refine ⟨_, rfl, _, rfl, _, rfl, _, rfl, ?_⟩
      refine catA_of (K := K) (sgo _ _ ewkf) (sgo _ _ ewlf) (by omega) fun Hp r5 sp ep => ?_
      rw [kcat] at ep
      have sgp := sgo.trans sp
      refine ⟨x, mo, .ref r5, u, l, _, _, rfl, same_ord sgp Of, same_ord (so.trans sp) Om, .inl ⟨r5, _, rfl, ep, by rw [List.length_append]; omega, fun Hq sq => ?_⟩⟩
      have hfin : decide (K49.run (K49.placesOf u l) (ks' ++ ls) = K49.placesOf (runR u l (ks' ++ ls)).1 (runR u l (ks' ++ ls)).2) = true := by
        rw [runR_places O.1]
        simp
      rw [hfin]
      have sall := ((sd.trans sef).trans sgp).trans sq
      exact q Hq (k0c.same sall) (Dc.same sall)
end
end R49
set_option Elab.async false
set_option linter.all false
set_option maxRecDepth 100000
set_option maxHeartbeats 8000000
namespace R49
open PySem PySem.Spec PyProof.Rows L2
/-
0=_law_script 1=_law_spot 2=_law_dice_here 3=_law_two 4=_law_three 5=_law_one 6=_law_other 7=_law_told
-/
/-! ### the closing examples -/
theorem rows_const {u l : List Str} (h1 : u.Nodup) (h2 : l.Perm u) (h3 : okRow u) (h4 : K49.Good u.length (K49.placesOf u l)) : Rows u l := ⟨⟨h1, h2⟩, h3, h4⟩
theorem R2a : Rows ["a", "b"] ["b", "a"] := rows_const (by decide +kernel) (by decide +kernel) ⟨by decide, by decide, by decide +kernel, by show ∀ x ∈ (["a", "b"] : List Str), 1 ≤ x.length ∧ x.length ≤ 8 ∧ ∀ c ∈ x.cps.toList, c ∈ letters.cps.toList; decide +kernel⟩ ⟨by decide +kernel, by decide, by decide +kernel⟩
theorem R3a : Rows ["a", "b", "c"] ["c", "b", "a"] := rows_const (by decide +kernel) (by decide +kernel) ⟨by decide, by decide, by decide +kernel, by show ∀ x ∈ (["a", "b", "c"] : List Str), 1 ≤ x.length ∧ x.length ≤ 8 ∧ ∀ c ∈ x.cps.toList, c ∈ letters.cps.toList; decide +kernel⟩ ⟨by decide +kernel, by decide, by decide +kernel⟩
theorem R3x : Rows ["x", "y", "z"] ["y", "z", "x"] := rows_const (by decide +kernel) (by decide +kernel) ⟨by decide, by decide, by decide +kernel, by show ∀ x ∈ (["x", "y", "z"] : List Str), 1 ≤ x.length ∧ x.length ≤ 8 ∧ ∀ c ∈ x.cps.toList, c ∈ letters.cps.toList; decide +kernel⟩ ⟨by decide +kernel, by decide, by decide +kernel⟩
theorem R4a : Rows ["a", "b", "c", "d"] ["d", "c", "b", "a"] := rows_const (by decide +kernel) (by decide +kernel) ⟨by decide, by decide, by decide +kernel, by show ∀ x ∈ (["a", "b", "c", "d"] : List Str), 1 ≤ x.length ∧ x.length ≤ 8 ∧ ∀ c ∈ x.cps.toList, c ∈ letters.cps.toList; decide +kernel⟩ ⟨by decide +kernel, by decide, by decide +kernel⟩
theorem R4b : Rows ["a", "b", "c", "d"] ["d", "b", "c", "a"] := rows_const (by decide +kernel) (by decide +kernel) ⟨by decide, by decide, by decide +kernel, by show ∀ x ∈ (["a", "b", "c", "d"] : List Str), 1 ≤ x.length ∧ x.length ≤ 8 ∧ ∀ c ∈ x.cps.toList, c ∈ letters.cps.toList; decide +kernel⟩ ⟨by decide +kernel, by decide, by decide +kernel⟩
theorem P2a : K49.placesOf (["a", "b"] : List Str) ["b", "a"] = [1, 0] := by decide +kernel
theorem P3a : K49.placesOf (["a", "b", "c"] : List Str) ["c", "b", "a"] = [2, 1, 0] := by decide +kernel
theorem P3x : K49.placesOf (["x", "y", "z"] : List Str) ["y", "z", "x"] = [2, 0, 1] := by decide +kernel
theorem P4a : K49.placesOf (["a", "b", "c", "d"] : List Str) ["d", "c", "b", "a"] = [3, 2, 1, 0] := by decide +kernel
theorem P4b : K49.placesOf (["a", "b", "c", "d"] : List Str) ["d", "b", "c", "a"] = [3, 1, 2, 0] := by decide +kernel
theorem EX1 : K49.walkB (K49.placesOf (["a", "b"] : List Str) ["b", "a"]) (K49.placesOf (["a", "b", "c"] : List Str) ["c", "b", "a"]) = none := by rw [P2a, P3a]; exact K49.ex1
theorem EX2 : K49.walkB (K49.placesOf (["a", "b", "c", "d"] : List Str) ["d", "c", "b", "a"]) (K49.placesOf (["a", "b", "c", "d"] : List Str) ["d", "b", "c", "a"]) = none := by rw [P4a, P4b]; exact K49.ex2
theorem EX3 : K49.walkB (K49.placesOf (["a", "b", "c"] : List Str) ["c", "b", "a"]) (K49.placesOf (["x", "y", "z"] : List Str) ["y", "z", "x"]) = some [false] := by rw [P3a, P3x]; exact K49.ex3
theorem EX4 : K49.walkB (K49.placesOf (["a", "b"] : List Str) ["b", "a"]) (K49.placesOf (["a", "b"] : List Str) ["b", "a"]) = some [] := by rw [P2a]; exact K49.ex4
section
variable {P : Program} {w : World} {K : PySem.W.Frag} {mg : Str → Option Value} {base : Heap}
theorem sc_law : FnScope ["_law_script", "_law_spot", "_law_dice_here", "_law_two", "_law_three", "_law_one", "_law_other", "_law_told"] ["_law_script"] (defScope dLaw.st) := ⟨rfl, rfl, rfl, by decide +kernel, rfl, by decide +kernel, by decide +kernel⟩
def spLaw (K : PySem.W.Frag) : Sp := fun vs H Q _ => ∃ (a : Addr) (ns : List Int), vs = [.ref a] ∧ SqL K H a (ns.map V.int) ∧ ∀ H', Q (.bl true) H'
theorem ok_law (T : Txt K mg) {fd : FuncData} (F : FunD K dLaw.name dLaw.qual (defArgs dLaw.st) (defBody dLaw.st) (defScope dLaw.st) [] [] (dLaw.at_ K) fd) : FnOk P w K mg base CX0 10 (dLaw.at_ K) fd ["_law_script"] (spLaw K) := by
  have C_law_dice := ok_law_dice (P := P) (w := w) (base := base) T
  have C_law_right := ok_law_right (P := P) (w := w) (base := base) T
  have C_read := ok_read (P := P) (w := w) (base := base) T
  have C_walk_between := ok_walk_between (P := P) (w := w) (base := base) T
  have C_are_joined := ok_are_joined (P := P) (w := w) (base := base) T
  have C_is_walk := ok_is_walk (P := P) (w := w) (base := base) T
  refine F.ok sc_law (fun vs H Q E h => ?_) (fun cdv A outer st0 H vs Q E hr h => ?_)
  · obtain ⟨a, ns, rfl, _⟩ := h
    rfl
  · obtain ⟨a, ns, rfl, es, q⟩ := h
    refine ⟨_, PSs.nox (PSs.nox (pss_cons (ps_for PassesOwn.never rfl (pi_range1 (by rfl) (T.f "range") (pa_cons (pe_callB (call_max2 rfl) (by rfl) (T.f "max") (by decide +kernel) (pa_cons pe_int (pa_cons (pe_callB (call_min2 rfl) (by rfl) (T.f "min") (by decide +kernel) (pa_cons pe_int (pa_cons (pe_callB call_len_seq (by rfl) (T.f "len") PySem.boot_len (pa_cons (pv 0) pa_nil)) pa_nil))) pa_nil))) pa_nil)) (pg_name (i := 1) sc_law.nd rfl (Or.inl rfl))
      (pss_cons (ps_set (i := 2) sc_law.nd rfl (Or.inl rfl) (pe_cal C_law_dice (hr.mono (by decide)) (T.g "_law_dice") (pa_cons (pv 0) (pa_cons (pv 1) pa_nil))))
      (pss_one (ps_if (pt_not (pt_val (pe_cal C_law_right (hr.mono (by decide)) (T.g "_law_right") (pa_cons (pv 2) pa_nil))))
      (pss_one (ps_ret pe_bl))
      pss_nil))))
      (pss_cons (ps_par (i := 3) (j := 4) (by rfl) sc_law.nd rfl rfl (by decide) rfl rfl (pa_cons (ClX.pe_cmeth (pe_gr (T.g "Order")) T.rd T.cm C_read.r (hr.mono (by decide)) pass0 (pa_cons pe_str (pa_cons pe_str pa_nil))) (pa_cons (ClX.pe_cmeth (pe_gr (T.g "Order")) T.rd T.cm C_read.r (hr.mono (by decide)) pass0 (pa_cons pe_str (pa_cons pe_str pa_nil))) pa_nil)) (by rfl))
      (pss_cons (ps_if (PW.pt (pw_or (pt_val (pe_cal C_are_joined (hr.mono (by decide)) (T.g "are_joined") (pa_cons (pv 3) (pa_cons (pv 4) pa_nil)))) (pw_or (pt_cmpR op_notN (pe_cal C_walk_between (hr.mono (by decide)) (T.g "walk_between") (pa_cons (pv 3) (pa_cons (pv 4) pa_nil))) pe_non (nomark _)) (pw_or (pt_val (pe_cal C_is_walk (hr.mono (by decide)) (T.g "is_walk") (pa_cons (pv 3) (pa_cons (pv 4) (pa_cons (pe_tup pa_nil) pa_nil))))) (pw_or1 (pt_not (pt_val (pe_cal C_is_walk (hr.mono (by decide)) (T.g "is_walk") (pa_cons (pv 3) (pa_cons (pv 3) (pa_cons (pe_tup pa_nil) pa_nil)))))))))))
      (pss_one (ps_ret pe_bl))
      pss_nil)
      (pss_cons (ps_par (i := 5) (j := 6) (by rfl) sc_law.nd rfl rfl (by decide) rfl rfl (pa_cons (ClX.pe_cmeth (pe_gr (T.g "Order")) T.rd T.cm C_read.r (hr.mono (by decide)) pass0 (pa_cons pe_str (pa_cons pe_str pa_nil))) (pa_cons (ClX.pe_cmeth (pe_gr (T.g "Order")) T.rd T.cm C_read.r (hr.mono (by decide)) pass0 (pa_cons pe_str (pa_cons pe_str pa_nil))) pa_nil)) (by rfl))
      (pss_cons (ps_set (i := 7) sc_law.nd rfl (Or.inl rfl) (pe_lst (pa_cons (pe_cal C_are_joined (hr.mono (by decide)) (T.g "are_joined") (pa_cons (pv 5) (pa_cons (pv 6) pa_nil))) (pa_cons (pe_cal C_walk_between (hr.mono (by decide)) (T.g "walk_between") (pa_cons (pv 4) (pa_cons (ClX.pe_cmeth (pe_gr (T.g "Order")) T.rd T.cm C_read.r (hr.mono (by decide)) pass0 (pa_cons pe_str (pa_cons pe_str pa_nil))) pa_nil))) (pa_cons (pe_cal C_walk_between (hr.mono (by decide)) (T.g "walk_between") (pa_cons (pv 3) (pa_cons (pv 3) pa_nil))) pa_nil)))))
      (pss_one (ps_ret (pe_cmpR (op_eqD hr.units) (pv 7) (pe_lst (pa_cons pe_bl (pa_cons (pe_tup (pa_cons pe_str pa_nil)) (pa_cons (pe_tup pa_nil) pa_nil)))) (nomark _)))))))))), ?_⟩
    have big := size_big
    have hle : (if (if (((ns.map V.int).length : Nat) : Int) < 2 then (((ns.map V.int).length : Nat) : Int) else 2) > 1 then (if (((ns.map V.int).length : Nat) : Int) < 2 then (((ns.map V.int).length : Nat) : Int) else 2) else 1).toNat ≤ 2 := by
      split <;> (try split) <;> omega
    refine ⟨_, rfl, a, _, rfl, .inl es, _, _, rfl, _, _, rfl, _, rfl, ?_, ?_, for_it walk_range (fun i σ Hc => ∃ y1 y2, σ = [some (.ref a), y1, y2, none, none, none, none, none] ∧ Same H Hc) ⟨none, none, rfl, Same.refl _⟩ (fun _ _ _ _ _ => trivial) (fun i v σ Hc Hc' hi hp y => ?_) (fun σ Hc hp => ?_)⟩
    · split <;> (try split) <;> omega
    · split <;> (try split) <;> omega
    · obtain ⟨y1, y2, rfl, sm⟩ := hp
      obtain ⟨rfl, rfl⟩ := y
      have hi' : i ≤ 1 := by
        have := Nat.lt_of_lt_of_le hi hle
        omega
      refine ⟨_, rfl, _, rfl, a, ns, i, congrArg (fun z : Int => [V.ref a, V.int z]) (show (0 : Int) + (i : Nat) = ((i : Nat) : Int) by omega), sm.seq es, hi', fun H2 d s2 nd D2 => ⟨_, rfl, d, rfl, D2, fun H3 k3 D3 => ⟨_, rfl, itF rfl ⟨_, _, rfl, fun b o e => ?_⟩⟩⟩⟩
      exact k3 b o (ne_of_none (sm b o e) nd) (s2 b o (sm b o e))
    obtain ⟨y1, y2, rfl, sm⟩ := hp
    clear hle sm
    refine ⟨rfl, "a b", "b a", ["a", "b"], ["b", "a"], rfl, by decide +kernel, by decide +kernel, by decide, by decide, R2a, fun H2 o2 s2 O2 => ⟨rfl, "a b c", "c b a", ["a", "b", "c"], ["c", "b", "a"], rfl, by decide +kernel, by decide +kernel, by decide, by decide, R3a, fun H3 o3 s3 O3 => ⟨_, _, rfl, ?_⟩⟩⟩
    replace O2 := same_ord s3 O2
    have pp := EX1
    refine ⟨_, rfl, _, rfl, o2, o3, _, _, _, _, rfl, O2, O3, fun H4 s4 => ⟨_, rfl, itF (by rw [pp]; rfl) ?_⟩⟩
    replace O2 := same_ord s4 O2
    replace O3 := same_ord s4 O3
    refine ⟨_, rfl, _, rfl, o2, o3, _, _, _, _, rfl, O2, O3, (fun _ H5 s5 => ⟨rfl, _, rfl, itF rfl ?_⟩), fun ks e => by rw [pp] at e; cases e⟩
    refine ⟨_, rfl, _, rfl, Nat.zero_le _, fun tp ntp => ?_⟩
    have s6 := s5.trans (same_upd (o := .tup []) ntp)
    replace O2 := same_ord s6 O2
    replace O3 := same_ord s6 O3
    refine ⟨o2, o3, .ref tp, _, _, _, _, rfl, O2, O3, .inl ⟨tp, [], rfl, upd_same, by decide, fun H7 s7 => ⟨_, rfl, itF (by rw [P2a, P3a]; decide) ?_⟩⟩⟩
    refine ⟨_, rfl, _, rfl, Nat.zero_le _, fun tq ntq => ?_⟩
    have s8 := s7.trans (same_upd (o := .tup []) ntq)
    replace O2 := same_ord s8 O2
    replace O3 := same_ord s8 O3
    refine ⟨o2, o2, .ref tq, _, _, _, _, rfl, O2, O2, .inl ⟨tq, [], rfl, upd_same, by decide, fun H9 s9 => ⟨_, rfl, itF (by rw [P2a]; decide) ?_⟩⟩⟩
    replace O2 := same_ord s9 O2
    replace O3 := same_ord s9 O3
    refine ⟨rfl, "a b c d", "d c b a", ["a", "b", "c", "d"], ["d", "c", "b", "a"], rfl, by decide +kernel, by decide +kernel, by decide, by decide, R4a, fun Ha o4 sa O4 => ⟨rfl, "a b c d", "d b c a", ["a", "b", "c", "d"], ["d", "b", "c", "a"], rfl, by decide +kernel, by decide +kernel, by decide, by decide, R4b, fun Hb o5 sb O5 => ⟨_, _, rfl, ?_⟩⟩⟩
    replace O4 := same_ord sb O4
    replace O2 := same_ord (sa.trans sb) O2
    replace O3 := same_ord (sa.trans sb) O3
    refine ⟨_, rfl, _, rfl, o4, o5, _, _, _, _, rfl, O4, O5, fun Hc' sc => ?_⟩
    replace O2 := same_ord sc O2
    replace O3 := same_ord sc O3
    refine ⟨_, rfl, ?_⟩
    refine ⟨rfl, "x y z", "y z x", ["x", "y", "z"], ["y", "z", "x"], rfl, by decide +kernel, by decide +kernel, by decide, by decide, R3x, fun Hd o6 sd O6 => ?_⟩
    replace O2 := same_ord sd O2
    replace O3 := same_ord sd O3
    have e2 := EX2
    have e3 := EX3
    have e4 := EX4
    refine ⟨o3, o6, _, _, _, _, rfl, O3, O6, (fun e => by rw [e3] at e; cases e), fun ks e He r1 se er1 => ?_⟩
    obtain rfl : ks = [false] := by
      rw [e3] at e
      exact (Option.some.inj e).symm
    replace O2 := same_ord se O2
    refine ⟨_, rfl, _, rfl, o2, o2, _, _, _, _, rfl, O2, O2, (fun e => by rw [e4] at e; cases e), fun ks e Hf r2 sf er2 => ?_⟩
    obtain rfl : ks = [] := by
      rw [e4] at e
      exact (Option.some.inj e).symm
    refine ⟨by show 3 ≤ _; omega, fun L nL => ?_⟩
    rw [e2, show (Option.isSome (none : Option (List Bool))) = false from rfl]
    have sL : Same Hf (upd Hf L (.lst [.bl false, .ref r1, .ref r2])) := same_upd nL
    have eL : (upd Hf L (.lst [.bl false, .ref r1, .ref r2])) L = some (.lst [.bl false, .ref r1, .ref r2]) := upd_same
    have er1' := sL _ _ (sf _ _ er1)
    have er2' := sL _ _ er2
    generalize upd Hf L (.lst [.bl false, .ref r1, .ref r2]) = Hg at eL er1' er2'
    refine ⟨_, rfl, by show 1 ≤ _; omega, fun t1 n1 => ⟨Nat.zero_le _, fun t2 n2 => ⟨by show 3 ≤ _; omega, fun M nM => ?_⟩⟩⟩
    have u1 : Same Hg (upd Hg t1 (.tup [.str "lower"])) := same_upd n1
    have v1 : (upd Hg t1 (.tup [.str "lower"])) t1 = some (.tup [.str "lower"]) := upd_same
    generalize upd Hg t1 (.tup [.str "lower"]) = Hh at u1 v1 n2 nM
    have u2 : Same Hh (upd Hh t2 (.tup [])) := same_upd n2
    have v2 : (upd Hh t2 (.tup [])) t2 = some (.tup []) := upd_same
    generalize upd Hh t2 (.tup []) = Hi at u2 v2 nM
    have u3 : Same Hi (upd Hi M (.lst [.bl false, .ref t1, .ref t2])) := same_upd nM
    have u03 := (u1.trans u2).trans u3
    refine ⟨.list [.bool false, .tuple [.str "lower"], .tuple []], .list [.bool false, .tuple [.str "lower"], .tuple []],
      .lst (SqL.of (u03 _ _ eL)) (.cons (.bl false) (.cons (.tup (SqT.of (u03 _ _ er1')) (.cons (.str "lower") .nil)) (.cons (.tup (SqT.of (u03 _ _ er2')) .nil) .nil))),
      .lst (SqL.of upd_same) (.cons (.bl false) (.cons (.tup (SqT.of ((u2.trans u3) _ _ v1)) (.cons (.str "lower") .nil)) (.cons (.tup (SqT.of (u3 _ _ v2)) .nil) .nil))), by decide +kernel, by decide +kernel, ?_⟩
    have hq : PyData.eqv (.list [.bool false, .tuple [.str "lower"], .tuple []]) (.list [.bool false, .tuple [.str "lower"], .tuple []]) = true := by decide +kernel
    rw [hq]
    exact q _
end
end R49
set_option Elab.async false
set_option linter.all false
set_option maxRecDepth 100000
set_option maxHeartbeats 0
namespace R49
open PySem PySem.Spec PyProof.Rows L2
theorem facts {P : Program} {w : World} {K : PySem.W.Frag} {h : Heap} {mg : Str → Option Value} {f : Addr} (X : K.In h) (G : h.Ns mainGlobals mg) (hfa : mg ("law" : Str) = some (.ref f)) (c : SaysO K) :
    ∃ fd : FuncData, (∀ (s : Shared) (v : Value), BindsTo s fd ⟨[v], []⟩ [("_law_script", v)]) ∧ ∀ base : Heap, K.In base → base.Ns mainGlobals mg → FnOk P w K mg base CX0 10 f fd ["_law_script"] (spLaw K) := by
  have T := txt_of X G c
  obtain ⟨fd, F⟩ := T.fn dLaw (List.mem_of_getElem? (i := dfs.length - 1) rfl)
  have e := hfa.symm.trans (T.g "law")
  cases e
  have b := FunD.bindsA (ps := ["_law_script"]) F fun _ _ _ _ _ _ us hl => match us, hl with | [_], _ => rfl
  exact ⟨fd, fun s v => b s [v] rfl, fun base _ _ => ok_law T F⟩
end R49
open PySem PySem.W PySem.Calls PyProof.Rows
theorem PySem.Challenge.cw_pieceround_k49_shortest_walks_between_wh_holds : PySem.Challenge.rw_pieceround_k49_shortest_walks_between_wh.Holds := by
  w_on; o_law
  refine HandSHeadRun.head_any (r := OpenLaw.row PySem.Challenge.rw_pieceround_k49_shortest_walks_between_wh) (q := R49.qv) (H := R49.hkO) (ob := R49.obO) (M := 6000) (loose := R49.names) (d := HandSHeadRun.topDef (OpenLaw.row PySem.Challenge.rw_pieceround_k49_shortest_walks_between_wh).prog 63) (kwd := []) R49.obO_eq
    (by kernel_rfl) (fun s => by kernel_rfl) R49.run (by kernel_rfl) (by kernel_rfl) (by kernel_rfl) (by rfl) (by first | assumption | decide +kernel) (by decide +kernel) ⟨rfl, rfl, rfl, rfl, rfl, by decide +kernel⟩ ?hw ?hc
  case hw => w_witness2
  case hc =>
    refine L2.walk_ofE (l := PySem.Challenge.rw_pieceround_k49_shortest_walks_between_wh) (n := 63) (k := 10) (x := "_law_script") (CX := L2.CX0) rfl (by decide) (by kernel_rfl) ⟨rfl, by decide, by decide⟩ ?F (fun _ _ _ _ z => z)
    intro w mg fa h Y G hmg0
    obtain ⟨K, KX, c⟩ := Y
    have hmg : mg ("law" : PySem.Str) = some (.ref fa) := by
      have e : (HandSHeadRun.topDef (OpenLaw.row PySem.Challenge.rw_pieceround_k49_shortest_walks_between_wh).prog 63).name = ("law" : PySem.Str) := by kernel_rfl
      rw [← e]
      exact hmg0
    obtain ⟨fd, hb, hF⟩ := R49.facts (P := (PySem.Challenge.rw_pieceround_k49_shortest_walks_between_wh).prog) (w := w) KX G hmg c
    exact ⟨K, fd, R49.spLaw K, KX, hb, fun H a ns hl _ hS => ⟨a, ns, rfl, hS, fun _ => rfl⟩, hF⟩
