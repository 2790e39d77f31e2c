import PyProof.Rows.All
import Wide.All
import OpenK.AllK
import Wide.FinOn
import HandS.ForMost
import HandS.ForExc
import HandS.IsInst
import HandS.ExcIs
import HandS.More
import PySem.Challenge.RW_driftkept_k02_whole_memory_that_lasts
set_option Elab.async false
set_option maxRecDepth 100000
/-! The plain side: the state of a memory, what a request, a drift and a cut make of it. No program here. -/
namespace DK
open PySem L2

/-! ### notes: cells and places -/
abbrev NL := List (Nat × Nat)
def look (l : NL) (c : Nat) : Option Nat := (l.find? fun p => decide (p.1 = c)).map (·.2)
def put (l : NL) (c m : Nat) : NL :=
  if (l.any fun p => decide (p.1 = c)) = true then l.map (fun p => if p.1 = c then (p.1, m) else p) else l ++ [(c, m)]
def kv (l : NL) : List (Key × V) := l.map fun p => (Sum.inl (p.1 : Int), V.int (p.2 : Int))

theorem key_eq (a b : Nat) : decide ((Sum.inl (a : Int) : Key) = Sum.inl (b : Int)) = decide (a = b) := by
  by_cases h : a = b
  · subst h; simp
  · have : ¬ (Sum.inl (a : Int) : Key) = Sum.inl (b : Int) := fun q => h (by have := Sum.inl.inj q; omega)
    rw [decide_eq_false h, decide_eq_false this]
theorem valV_kv (c : Nat) : ∀ l : NL, valV (kv l) (Sum.inl (c : Int)) = (look l c).map fun m => V.int (m : Int)
  | [] => rfl
  | p :: r => by
    have ih := valV_kv c r
    by_cases h : p.1 = c
    · have e1 : valV (kv (p :: r)) (Sum.inl (c : Int)) = some (V.int (p.2 : Int)) := valV_pos (p := (Sum.inl (p.1 : Int), V.int (p.2 : Int))) (by rw [h])
      have e2 : look (p :: r) c = some p.2 := by simp [look, h]
      rw [e1, e2]; rfl
    · have h' : ¬ ((Sum.inl (p.1 : Int) : Key) = Sum.inl (c : Int)) := fun q => h (by have := Sum.inl.inj q; omega)
      have e1 : valV (kv (p :: r)) (Sum.inl (c : Int)) = valV (kv r) (Sum.inl (c : Int)) := valV_neg (p := (Sum.inl (p.1 : Int), V.int (p.2 : Int))) h'
      have e2 : look (p :: r) c = look r c := by simp [look, h]
      rw [e1, e2]; exact ih
theorem any_kv (c : Nat) (l : NL) : ((kv l).any fun kv => decide (kv.1 = (Sum.inl (c : Int) : Key))) = l.any fun p => decide (p.1 = c) := by
  unfold kv
  rw [List.any_map]
  congr 1
  funext p
  exact key_eq p.1 c
theorem putK_kv (l : NL) (c m : Nat) : putK (kv l) (Sum.inl (c : Int)) (V.int (m : Int)) = kv (put l c m) := by
  unfold putK put
  rw [any_kv]
  split
  · unfold kv
    rw [List.map_map, List.map_map]
    apply List.map_congr_left
    intro p _
    show (if (Sum.inl (p.1 : Int) : Key) = Sum.inl (c : Int) then _ else _) = _
    by_cases h : p.1 = c
    · have h' : (Sum.inl (p.1 : Int) : Key) = Sum.inl (c : Int) := by rw [h]
      rw [if_pos h']
      simp [h]
    · have h' : ¬ ((Sum.inl (p.1 : Int) : Key) = Sum.inl (c : Int)) := fun q => h (by have := Sum.inl.inj q; omega)
      rw [if_neg h']
      simp [h]
  · unfold kv
    rw [List.map_append]; rfl
theorem look_isSome (l : NL) (c : Nat) : (look l c).isSome = l.any fun p => decide (p.1 = c) := by
  unfold look
  rw [Option.isSome_map, Bool.eq_iff_iff, List.find?_isSome, List.any_eq_true]
theorem keys_kv (l : NL) : (kv l).map (·.1) = (l.map fun p => (p.1 : Int)).map Sum.inl := by
  unfold kv
  rw [List.map_map, List.map_map]; rfl

/-- what is asked of notes: lasting cells, each once -/
def NOk (l : NL) : Prop := (l.map (·.1)).Nodup ∧ ∀ p ∈ l, 3 ≤ p.1 ∧ p.1 < 13
theorem NOk.nil : NOk [] := ⟨List.nodup_nil, fun _ h => by simp at h⟩
theorem put_keys (l : NL) (c m : Nat) : (put l c m).map (·.1) = if (l.any fun p => decide (p.1 = c)) = true then l.map (·.1) else l.map (·.1) ++ [c] := by
  unfold put
  split
  · rw [List.map_map]
    apply List.map_congr_left
    intro p _
    show (if p.1 = c then (p.1, m) else p).1 = p.1
    split <;> rfl
  · rw [List.map_append]; rfl
theorem NOk.put {l : NL} (h : NOk l) {c : Nat} (m : Nat) (h3 : 3 ≤ c) (h13 : c < 13) : NOk (put l c m) := by
  have k := put_keys l c m
  refine ⟨?_, ?_⟩
  · rw [k]
    split
    · exact h.1
    · rename_i hn
      rw [List.nodup_append]
      refine ⟨h.1, by simp, ?_⟩
      intro a ha b hb
      have eb : b = c := by simpa using hb
      subst eb
      intro e
      subst e
      obtain ⟨p, hp, e⟩ := List.mem_map.mp ha
      exact hn (List.any_eq_true.mpr ⟨p, hp, by simp [e]⟩)
  · intro p hp
    have q : p.1 ∈ (DK.put l c m).map (·.1) := List.mem_map.mpr ⟨p, hp, rfl⟩
    rw [k] at q
    have old : p.1 ∈ l.map (·.1) → 3 ≤ p.1 ∧ p.1 < 13 := fun q => by
      obtain ⟨p', h1, e⟩ := List.mem_map.mp q
      rw [← e]; exact h.2 p' h1
    split at q
    · exact old q
    · rcases List.mem_append.mp q with q | q
      · exact old q
      · have e : p.1 = c := by simpa using q
        rw [e]; exact ⟨h3, h13⟩
/-- distinct numbers below n are at most n -/
theorem nodup_le : ∀ (n : Nat) (l : List Nat), l.Nodup → (∀ x ∈ l, x < n) → l.length ≤ n
  | 0, l, _, h => by
    cases l with
    | nil => exact Nat.le_refl _
    | cons a r => exact absurd (h a List.mem_cons_self) (Nat.not_lt_zero _)
  | n + 1, l, hd, h => by
    have ih := nodup_le n (l.erase n) (hd.erase n) (fun x hx => by
      have h1 : x ∈ l := List.mem_of_mem_erase hx
      have h2 : x ≠ n := fun e => by
        subst e
        exact (List.Nodup.not_mem_erase hd) hx
      have := h x h1
      omega)
    have : l.length ≤ (l.erase n).length + 1 := by
      rw [List.length_erase]
      split <;> omega
    omega
theorem NOk.few {l : NL} (h : NOk l) : l.length ≤ 13 := by
  have := nodup_le 13 (l.map (·.1)) h.1 (fun x hx => by
    obtain ⟨p, hp, e⟩ := List.mem_map.mp hx
    rw [← e]; exact (h.2 p hp).2)
  rwa [List.length_map] at this
theorem look_mem {l : NL} {c m : Nat} (h : look l c = some m) : (c, m) ∈ l := by
  unfold look at h
  obtain ⟨p, hp, e⟩ := Option.map_eq_some_iff.mp h
  have h1 := List.mem_of_find?_eq_some hp
  have h2 : p.1 = c := by simpa using List.find?_some hp
  rw [← h2, ← e]; exact h1
theorem put_same {l : NL} (h : NOk l) {c m : Nat} (e : look l c = some m) : put l c m = l := by
  have hm := look_mem e
  unfold put
  rw [if_pos (List.any_eq_true.mpr ⟨(c, m), hm, by simp⟩)]
  have : l.map (fun p => if p.1 = c then (p.1, m) else p) = l.map id := by
    apply List.map_congr_left
    intro p hp
    show (if p.1 = c then (p.1, m) else p) = p
    by_cases hc : p.1 = c
    · rw [if_pos hc]
      obtain ⟨i, hi, ei⟩ := List.getElem_of_mem hp
      obtain ⟨j, hj, ej⟩ := List.getElem_of_mem hm
      have hij : i = j := by
        refine (List.getElem_inj (h₀ := by rw [List.length_map]; exact hi) (h₁ := by rw [List.length_map]; exact hj) h.1).mp ?_
        rw [List.getElem_map, List.getElem_map, ei, ej]; exact hc
      subst hij
      have : p = (c, m) := ei.symm.trans ej
      rw [this]
    · rw [if_neg hc]
  rw [this, List.map_id]

def shN (c k : Nat) (l : NL) : NL := match look l c with
  | some m => put l c (m - k)
  | none => l
theorem shN_zero {l : NL} (h : NOk l) (c : Nat) : shN c 0 l = l := by
  unfold shN
  split
  · rename_i m e
    exact put_same h e
  · rfl
theorem shN_some {l : NL} {c k m : Nat} (e : look l c = some m) : shN c k l = put l c (m - k) := by
  unfold shN; rw [e]
theorem shN_none {l : NL} {c k : Nat} (e : look l c = none) : shN c k l = l := by
  unfold shN; rw [e]
theorem NOk.shN {l : NL} (h : NOk l) (c k : Nat) : NOk (shN c k l) := by
  unfold DK.shN
  split
  · rename_i m e
    have := h.2 _ (look_mem e)
    exact h.put _ this.1 this.2
  · exact h

/-! ### the state -/
structure MS where
  tr : List (List PyData)
  nt : List NL
/-- the last value -/
def lastD (ds : List PyData) : PyData := ds.getLastD .none
def shBy (s : MS) (c k : Nat) : Nat := min k ((s.tr.getD c []).length - 1)
def shorten (s : MS) (c k : Nat) : MS :=
  { tr := s.tr.set c ((s.tr.getD c []).drop (shBy s c k)), nt := s.nt.map (shN c (shBy s c k)) }
def give (s : MS) (c : Nat) (d : PyData) : MS := { s with tr := s.tr.set c (if c < 3 then [d] else s.tr.getD c [] ++ [d]) }
def flush (s : MS) (t c : Nat) : MS := { s with nt := s.nt.set t (put (s.nt.getD t []) c ((s.tr.getD c []).length - 1)) }
/-- the cells of the notes, rising -/
def keysS (l : NL) : List Nat := (l.map (·.1)).mergeSort (fun a b => decide (a ≤ b))
def fenceTurn (l : NL) (s : MS) (c : Nat) : MS := shorten s c ((look l c).getD 0)
def fence (s : MS) (t : Nat) : MS := (keysS (s.nt.getD t [])).foldl (fenceTurn (s.nt.getD t [])) { s with nt := s.nt.set t [] }

inductive Rq where
  | read (c : Nat) | write (c : Nat) (d : PyData) | swap (c : Nat) (d e : PyData) | decide (c : Nat) (w : Str) | flush (c : Nat) | fence
def acc (s : MS) (n t : Nat) : Rq → PyData × MS
  | .read c => (lastD (s.tr.getD c []), s)
  | .write c d => (.none, give s c d)
  | .swap c d e => if PyData.eqv (lastD (s.tr.getD c [])) d = true then (.bool true, give s c e) else (.bool false, s)
  | .decide c w => if PyData.eqv (lastD (s.tr.getD c [])) (.int 0) = true then (.bool true, give s c (.tuple [.str w, .int n])) else (.bool false, s)
  | .flush c => (.none, flush s t c)
  | .fence => (.none, fence s t)

def cutTurn (ch : List Nat) (s : MS) (c : Nat) : MS :=
  let s1 := match ch[c - 3]? with
    | some k => shorten s c k
    | none => s
  { s1 with tr := s1.tr.set c ((s1.tr.getD c []).take 1) }
def cutLoop (ch : List Nat) (s : MS) (n : Nat) : MS := (List.range n).foldl (fun s i => cutTurn ch s (3 + i)) s
def wipe3 (s : MS) : MS := { tr := ((s.tr.set 0 [.int 0]).set 1 [.none]).set 2 [.none], nt := [[], []] }
def cut (s : MS) (ch : List Nat) : MS := wipe3 (cutLoop ch s 10)

/-! ### what is asked of data -/
def Gd (d : PyData) : Prop := d.canLay0 = true ∧ d.depth ≤ 8
theorem Gd.none : Gd .none := ⟨rfl, by decide⟩
theorem Gd.bool (b : Bool) : Gd (.bool b) := ⟨rfl, Nat.zero_le _⟩
theorem Gd.int (i : Int) : Gd (.int i) := ⟨rfl, Nat.zero_le _⟩
theorem Gd.str {x : Str} (h : PyData.strOk x = true) : Gd (.str x) := ⟨h, Nat.zero_le _⟩
theorem Gd.shaped {d : PyData} (h : Gd d) : SeqAt.shaped d = true := by
  unfold SeqAt.shaped
  rw [h.1, Bool.true_and]
  exact decide_eq_true (Nat.le_trans h.2 (by decide))
theorem all_can : ∀ ds : List PyData, (∀ d ∈ ds, Gd d) → PyData.canLayAll0 ds = true ∧ PyData.depthAll ds ≤ 8
  | [], _ => ⟨rfl, Nat.zero_le _⟩
  | d :: ds, h => by
    obtain ⟨h1, h2⟩ := all_can ds fun x hx => h x (List.mem_cons_of_mem _ hx)
    obtain ⟨g1, g2⟩ := h d List.mem_cons_self
    refine ⟨by simp only [PyData.canLayAll0, g1, h1, Bool.and_self], ?_⟩
    rw [PyData.depthAll]
    exact Nat.max_le.mpr ⟨g2, h2⟩
theorem shaped_list {ds : List PyData} (h : ∀ d ∈ ds, Gd d) : SeqAt.shaped (.list ds) = true := by
  obtain ⟨h1, h2⟩ := all_can ds h
  unfold SeqAt.shaped
  rw [PyData.canLay0, h1, Bool.true_and]
  refine decide_eq_true ?_
  rw [PyData.depth]; omega
theorem eqv_list {ds : List PyData} (h : ∀ d ∈ ds, Gd d) : PyData.eqv (.list ds) (.list ds) = true :=
  SeqAt.eqv_refl _ (by rw [PyData.canLay0]; exact (all_can ds h).1)
theorem eqv_self {d : PyData} (h : Gd d) : PyData.eqv d d = true := SeqAt.eqv_refl _ h.1

/-! ### the state, well-formed -/
structure WF (s : MS) (n : Nat) : Prop where
  tl : s.tr.length = 13
  nl : s.nt.length = 2
  ne : ∀ ds ∈ s.tr, ds ≠ []
  le : ∀ ds ∈ s.tr, ds.length ≤ n + 1
  gd : ∀ ds ∈ s.tr, ∀ d ∈ ds, Gd d
  nk : ∀ l ∈ s.nt, NOk l
section
variable {s : MS} {n : Nat}
theorem WF.mono (w : WF s n) {m : Nat} (h : n ≤ m) : WF s m := ⟨w.tl, w.nl, w.ne, fun ds h1 => Nat.le_trans (w.le ds h1) (by omega), w.gd, w.nk⟩
theorem getD_mem {α : Type} {l : List α} {i : Nat} {x : α} (h : i < l.length) : l.getD i x ∈ l := by
  rw [List.getD_eq_getElem?_getD, List.getElem?_eq_getElem h]
  exact List.getElem_mem h
theorem WF.at_mem (w : WF s n) {c : Nat} (h : c < 13) : s.tr.getD c [] ∈ s.tr := getD_mem (by rw [w.tl]; exact h)
theorem WF.nt_mem (w : WF s n) {t : Nat} (h : t < 2) : s.nt.getD t [] ∈ s.nt := getD_mem (by rw [w.nl]; exact h)
theorem WF.set (w : WF s n) {m c : Nat} {ds : List PyData} (hm : n ≤ m) (h0 : ds ≠ []) (hl : ds.length ≤ m + 1) (hg : ∀ d ∈ ds, Gd d) : WF { s with tr := s.tr.set c ds } m :=
  ⟨by show (s.tr.set c ds).length = 13; rw [List.length_set]; exact w.tl, w.nl,
    fun e he => (List.mem_or_eq_of_mem_set he).elim (fun z => w.ne e z) fun z => by rw [z]; exact h0,
    fun e he => (List.mem_or_eq_of_mem_set he).elim (fun z => Nat.le_trans (w.le e z) (by omega)) fun z => by rw [z]; exact hl,
    fun e he => (List.mem_or_eq_of_mem_set he).elim (fun z => w.gd e z) fun z => by rw [z]; exact hg, w.nk⟩
theorem WF.notes (w : WF s n) {nt : List NL} (h1 : nt.length = 2) (h2 : ∀ l ∈ nt, NOk l) : WF { s with nt := nt } n := ⟨w.tl, h1, w.ne, w.le, w.gd, h2⟩
theorem WF.setNote (w : WF s n) {t : Nat} {l : NL} (h : NOk l) : WF { s with nt := s.nt.set t l } n :=
  w.notes (by rw [List.length_set]; exact w.nl) fun e he => (List.mem_or_eq_of_mem_set he).elim (fun z => w.nk e z) fun z => by rw [z]; exact h
theorem WF.give (w : WF s n) {c : Nat} {d : PyData} (hc : c < 13) (hd : Gd d) : WF (give s c d) (n + 1) := by
  unfold DK.give
  refine w.set (Nat.le_succ _) ?_ ?_ ?_
  · split <;> simp
  · split
    · simp
    · rw [List.length_append]
      have := w.le _ (w.at_mem hc)
      simp only [List.length_singleton]; omega
  · split
    · intro e he
      have : e = d := by simpa using he
      rw [this]; exact hd
    · intro e he
      rcases List.mem_append.mp he with he | he
      · exact w.gd _ (w.at_mem hc) e he
      · have : e = d := by simpa using he
        rw [this]; exact hd
theorem WF.shorten (w : WF s n) {c : Nat} (hc : c < 13) (k : Nat) : WF (shorten s c k) n := by
  have hm := w.at_mem hc
  have w1 : WF { s with tr := s.tr.set c ((s.tr.getD c []).drop (shBy s c k)) } n := by
    refine w.set (Nat.le_refl _) ?_ ?_ ?_
    · intro e
      have h1 := congrArg List.length e
      rw [List.length_drop] at h1
      have h2 : 0 < (s.tr.getD c []).length := List.length_pos_iff.mpr (w.ne _ hm)
      unfold shBy at h1
      simp only [List.length_nil] at h1
      omega
    · rw [List.length_drop]
      have := w.le _ hm
      omega
    · exact fun d hd => w.gd _ hm d (List.mem_of_mem_drop hd)
  exact w1.notes (by rw [List.length_map]; exact w.nl) fun l hl => by
    obtain ⟨l', h1, e⟩ := List.mem_map.mp hl
    rw [← e]; exact (w.nk l' h1).shN _ _
theorem WF.flush (w : WF s n) {t c : Nat} (ht : t < 2) (h3 : 3 ≤ c) (h13 : c < 13) : WF (flush s t c) n := w.setNote ((w.nk _ (w.nt_mem ht)).put _ h3 h13)
theorem mem_keysS {l : NL} {c : Nat} : c ∈ keysS l ↔ c ∈ l.map (·.1) := by
  unfold keysS
  exact List.Perm.mem_iff (List.mergeSort_perm _ _)
theorem keysS_lt {l : NL} (h : NOk l) : ∀ c ∈ keysS l, c < 13 := fun c hc => by
  obtain ⟨p, hp, e⟩ := List.mem_map.mp (mem_keysS.mp hc)
  rw [← e]; exact (h.2 p hp).2
theorem WF.fenceLoop {l : NL} : ∀ {cs : List Nat} {s : MS}, WF s n → (∀ c ∈ cs, c < 13) → WF (cs.foldl (fenceTurn l) s) n
  | [], _, w, _ => w
  | c :: cs, s, w, h => by
    rw [List.foldl_cons]
    exact WF.fenceLoop (w.shorten (h c List.mem_cons_self) _) fun x hx => h x (List.mem_cons_of_mem _ hx)
theorem WF.fence (w : WF s n) {t : Nat} (ht : t < 2) : WF (fence s t) n :=
  WF.fenceLoop (w.setNote NOk.nil) (keysS_lt (w.nk _ (w.nt_mem ht)))
theorem WF.cutTurn (w : WF s n) (ch : List Nat) {c : Nat} (hc : c < 13) : WF (cutTurn ch s c) n := by
  unfold DK.cutTurn
  have key : ∀ {s1 : MS}, WF s1 n → WF { s1 with tr := s1.tr.set c ((s1.tr.getD c []).take 1) } n := fun {s1} w1 => by
    have hm := w1.at_mem hc
    refine w1.set (Nat.le_refl _) ?_ ?_ ?_
    · intro e
      have h1 := congrArg List.length e
      have h2 : 0 < (s1.tr.getD c []).length := List.length_pos_iff.mpr (w1.ne _ hm)
      rw [List.length_take] at h1
      simp only [List.length_nil] at h1
      omega
    · rw [List.length_take]; omega
    · exact fun d hd => w1.gd _ hm d (List.mem_of_mem_take hd)
  dsimp only
  split
  · exact key (w.shorten hc _)
  · exact key w
theorem cutLoop_succ (ch : List Nat) (s : MS) (i : Nat) : cutLoop ch s (i + 1) = cutTurn ch (cutLoop ch s i) (3 + i) := by
  unfold cutLoop
  rw [List.range_succ, List.foldl_append]; rfl
theorem WF.cutLoop (w : WF s n) (ch : List Nat) : ∀ i, i ≤ 10 → WF (cutLoop ch s i) n
  | 0, _ => w
  | i + 1, h => by
    rw [cutLoop_succ]
    exact (WF.cutLoop w ch i (by omega)).cutTurn ch (by omega)
theorem WF.wipe3 (w : WF s n) : WF (wipe3 s) n := by
  have one : ∀ d, Gd d → ∀ e ∈ [d], Gd e := fun d h e he => by
    have : e = d := by simpa using he
    rw [this]; exact h
  have w1 := w.set (c := 0) (ds := [.int 0]) (Nat.le_refl _) (by simp) (by simp) (one _ (Gd.int _))
  have w2 := w1.set (c := 1) (ds := [.none]) (Nat.le_refl _) (by simp) (by simp) (one _ Gd.none)
  have w3 := w2.set (c := 2) (ds := [.none]) (Nat.le_refl _) (by simp) (by simp) (one _ Gd.none)
  exact w3.notes rfl fun l hl => by
    have : l = [] := by simpa using hl
    rw [this]; exact NOk.nil
theorem WF.cut (w : WF s n) (ch : List Nat) : WF (cut s ch) n := (w.cutLoop ch 10 (Nat.le_refl _)).wipe3
end

def RqOk : Rq → Prop
  | .read c => c < 13
  | .write c d => c < 13 ∧ Gd d
  | .swap c d e => c < 13 ∧ Gd d ∧ Gd e
  | .decide c w => c < 13 ∧ PyData.strOk w = true
  | .flush c => 3 ≤ c ∧ c < 13
  | .fence => True
theorem lastD_mem {ds : List PyData} (h : ds ≠ []) : lastD ds ∈ ds := by
  unfold lastD
  rw [List.getLastD_eq_getLast?, List.getLast?_eq_some_getLast h]
  exact List.getLast_mem h
theorem WF.last (w : WF s n) {c : Nat} (hc : c < 13) : Gd (lastD (s.tr.getD c [])) := w.gd _ (w.at_mem hc) _ (lastD_mem (w.ne _ (w.at_mem hc)))
theorem gd_pair {x : Str} (h : PyData.strOk x = true) (i : Int) : Gd (.tuple [.str x, .int i]) := by
  refine ⟨?_, by simp [PyData.depth, PyData.depthAll]⟩
  show (PyData.strOk x && (true && true)) = true
  rw [h]; rfl
theorem gd_ints (i j : Int) : Gd (.tuple [.int i, .int j]) := ⟨rfl, by simp [PyData.depth, PyData.depthAll]⟩
theorem WF.acc {s : MS} {n : Nat} (w : WF s n) {t : Nat} (ht : t < 2) {rq : Rq} (h : RqOk rq) : WF (acc s (n + 1) t rq).2 (n + 1) ∧ Gd (acc s (n + 1) t rq).1 := by
  have wm := w.mono (Nat.le_succ n)
  cases rq with
  | read c => exact ⟨wm, w.last h⟩
  | write c d => exact ⟨w.give h.1 h.2, Gd.none⟩
  | swap c d e =>
    by_cases q : PyData.eqv (lastD (s.tr.getD c [])) d = true
    · have e1 : DK.acc s (n + 1) t (.swap c d e) = (.bool true, DK.give s c e) := if_pos q
      rw [e1]; exact ⟨w.give h.1 h.2.2, Gd.bool _⟩
    · have e1 : DK.acc s (n + 1) t (.swap c d e) = (.bool false, s) := if_neg q
      rw [e1]; exact ⟨wm, Gd.bool _⟩
  | decide c x =>
    by_cases q : PyData.eqv (lastD (s.tr.getD c [])) (.int 0) = true
    · have e1 : DK.acc s (n + 1) t (.decide c x) = (.bool true, DK.give s c (.tuple [.str x, .int ((n + 1 : Nat) : Int)])) := if_pos q
      rw [e1]; exact ⟨w.give h.1 (gd_pair h.2 _), Gd.bool _⟩
    · have e1 : DK.acc s (n + 1) t (.decide c x) = (.bool false, s) := if_neg q
      rw [e1]; exact ⟨wm, Gd.bool _⟩
  | flush c => exact ⟨wm.flush ht h.1 h.2, Gd.none⟩
  | fence => exact ⟨wm.fence ht, Gd.none⟩

theorem map_self {α : Type} {f : α → α} : ∀ {l : List α}, (∀ x ∈ l, f x = x) → l.map f = l
  | [], _ => rfl
  | a :: r, h => by rw [List.map_cons, h a List.mem_cons_self, map_self fun x hx => h x (List.mem_cons_of_mem _ hx)]
theorem set_getD {α : Type} {l : List α} {i : Nat} {x : α} : l.set i (l.getD i x) = l := by
  by_cases h : i < l.length
  · rw [List.getD_eq_getElem?_getD, List.getElem?_eq_getElem h]
    exact List.set_getElem_self h
  · exact List.set_eq_of_length_le (by omega)
/-- nothing is taken away: nothing changes -/
theorem WF.shorten0 {s : MS} {n : Nat} (w : WF s n) {c k : Nat} (h : shBy s c k = 0) : DK.shorten s c k = s := by
  unfold DK.shorten
  rw [h, List.drop_zero, set_getD, map_self fun l hl => shN_zero (w.nk l hl) c]
end DK

/-! The state of a memory, as it lies on the abstract heap; the frame. -/
namespace DK
open PySem L2

/-! ### data on the heap -/
mutual
inductive Dt (H : Hp) : V → PyData → Prop
  | non : Dt H .non .none
  | bl (b : Bool) : Dt H (.bl b) (.bool b)
  | int (i : Int) : Dt H (.int i) (.int i)
  | str (x : Str) : Dt H (.str x) (.str x)
  | tup {a : Addr} {xs : List V} {ds : List PyData} : H a = some (.tup xs) → DtAll H xs ds → Dt H (.ref a) (.tuple ds)
inductive DtAll (H : Hp) : List V → List PyData → Prop
  | nil : DtAll H [] []
  | cons {v : V} {vs : List V} {d : PyData} {ds : List PyData} : Dt H v d → DtAll H vs ds → DtAll H (v :: vs) (d :: ds)
end
/-- the tuples stay -/
def Tups (H H' : Hp) : Prop := ∀ b xs, H b = some (.tup xs) → H' b = some (.tup xs)
theorem Tups.refl (H : Hp) : Tups H H := fun _ _ h => h
theorem Tups.trans {H H1 H2 : Hp} (a : Tups H H1) (b : Tups H1 H2) : Tups H H2 := fun c xs h => b c xs (a c xs h)
theorem Tups.upd_of {H : Hp} {a : Addr} {o : HO} (h : ∀ xs, H a ≠ some (.tup xs)) : Tups H (upd H a o) := fun b xs e => by
  rw [upd_ne]
  · exact e
  · intro q; subst q; exact h xs e
theorem Tups.new {H : Hp} {a : Addr} {o : HO} (h : H a = none) : Tups H (upd H a o) := Tups.upd_of fun xs e => by rw [h] at e; cases e
theorem Tups.of_same {H H' : Hp} (h : Same H H') : Tups H H' := fun b xs e => h b _ e
section
variable {H H' : Hp} {K : PySem.W.Frag}
mutual
theorem Dt.mono (t : Tups H H') : ∀ (d : PyData) (v : V), Dt H v d → Dt H' v d
  | .none, _, h => by cases h; exact .non
  | .bool b, _, h => by cases h; exact .bl b
  | .int i, _, h => by cases h; exact .int i
  | .str x, _, h => by cases h; exact .str x
  | .tuple ds, _, h => by
    cases h with
    | tup h1 h2 => exact .tup (t _ _ h1) (DtAll.mono t ds _ h2)
  | .list ds, _, h => by cases h
  | .dict ds, _, h => by cases h
theorem DtAll.mono (t : Tups H H') : ∀ (ds : List PyData) (vs : List V), DtAll H vs ds → DtAll H' vs ds
  | [], _, h => by cases h; exact .nil
  | d :: ds, _, h => by
    cases h with
    | cons h1 h2 => exact .cons (Dt.mono t d _ h1) (DtAll.mono t ds _ h2)
end
mutual
theorem Dt.dp : ∀ (d : PyData) (v : V), Dt H v d → Dp K H v d
  | .none, _, h => by cases h; exact .non
  | .bool b, _, h => by cases h; exact .bl b
  | .int i, _, h => by cases h; exact .int i
  | .str x, _, h => by cases h; exact .str x
  | .tuple ds, _, h => by
    cases h with
    | tup h1 h2 => exact .tup (SqT.of h1) (DtAll.dp ds _ h2)
  | .list ds, _, h => by cases h
  | .dict ds, _, h => by cases h
theorem DtAll.dp : ∀ (ds : List PyData) (vs : List V), DtAll H vs ds → DpAll K H vs ds
  | [], _, h => by cases h; exact .nil
  | d :: ds, _, h => by
    cases h with
    | cons h1 h2 => exact .cons (Dt.dp d _ h1) (DtAll.dp ds _ h2)
end
theorem Dt.to {v : V} {d : PyData} (h : Dt H v d) (t : Tups H H') : Dt H' v d := Dt.mono t d v h
theorem DtAll.to {vs : List V} {ds : List PyData} (h : DtAll H vs ds) (t : Tups H H') : DtAll H' vs ds := DtAll.mono t ds vs h
theorem DtAll.length : ∀ {vs : List V} {ds : List PyData}, DtAll H vs ds → vs.length = ds.length
  | [], _, h => by cases h; rfl
  | _ :: _, _, h => by
    cases h with
    | cons _ h2 => rw [List.length_cons, List.length_cons, DtAll.length h2]
theorem DtAll.drop : ∀ {vs : List V} {ds : List PyData} (n : Nat), DtAll H vs ds → DtAll H (vs.drop n) (ds.drop n)
  | _, _, 0, h => h
  | [], _, _ + 1, h => by cases h; exact .nil
  | _ :: _, _, n + 1, h => by
    cases h with
    | cons _ h2 => exact DtAll.drop n h2
theorem DtAll.take : ∀ {vs : List V} {ds : List PyData} (n : Nat), DtAll H vs ds → DtAll H (vs.take n) (ds.take n)
  | _, _, 0, h => .nil
  | [], _, _ + 1, h => by cases h; exact .nil
  | _ :: _, _, n + 1, h => by
    cases h with
    | cons h1 h2 => exact .cons h1 (DtAll.take n h2)
theorem DtAll.append : ∀ {vs ws : List V} {ds es : List PyData}, DtAll H vs ds → DtAll H ws es → DtAll H (vs ++ ws) (ds ++ es)
  | [], _, _, _, h, g => by cases h; exact g
  | _ :: _, _, _, _, h, g => by
    cases h with
    | cons h1 h2 => exact .cons h1 (DtAll.append h2 g)
theorem DtAll.one {v : V} {d : PyData} (h : Dt H v d) : DtAll H [v] [d] := .cons h .nil
/-- the last item -/
theorem DtAll.last : ∀ {vs : List V} {ds : List PyData}, DtAll H vs ds → ds ≠ [] → ∃ v, vs[vs.length - 1]? = some v ∧ Dt H v (lastD ds)
  | [], _, h, n => by cases h; exact absurd rfl n
  | v :: vs, _, h, n => by
    cases h with
    | @cons _ _ d ds h1 h2 =>
      cases ds with
      | nil =>
        cases h2
        exact ⟨v, rfl, h1⟩
      | cons e es =>
        obtain ⟨w, hw, hd⟩ := DtAll.last h2 (by simp)
        have hv : 0 < vs.length := by rw [h2.length]; simp
        refine ⟨w, ?_, ?_⟩
        · rw [List.length_cons, show vs.length + 1 - 1 = (vs.length - 1) + 1 by omega, List.getElem?_cons_succ]; exact hw
        · have : lastD (d :: e :: es) = lastD (e :: es) := by simp [lastD]
          rw [this]; exact hd
theorem DtAll.first : ∀ {vs : List V} {ds : List PyData}, DtAll H vs ds → ds ≠ [] → ∃ v, vs[0]? = some v ∧ Dt H v (ds.getD 0 .none)
  | [], _, h, n => by cases h; exact absurd rfl n
  | v :: vs, _, h, n => by
    cases h with
    | cons h1 h2 => exact ⟨v, rfl, h1⟩
end
/-- xs[-1] -/
theorem atI_m1 {α : Type} {xs : List α} {v : α} (h : xs[xs.length - 1]? = some v) : atI xs (-1) = some v := by
  have hl : xs.length - 1 < xs.length := (List.getElem?_eq_some_iff.mp h).1
  have e : ixN xs.length (-1) = some (xs.length - 1) := by
    unfold ixN
    rw [if_neg (by decide), if_pos (by omega)]
    congr 1
    omega
  unfold atI; rw [e]; exact h

/-! ### the frame -/
structure Step (H : Hp) (fp : List Addr) (H' : Hp) (fp' : List Addr) : Prop where
  keep : ∀ b o, H b = some o → b ∉ fp → H' b = some o
  new : ∀ b, b ∈ fp' → b ∈ fp ∨ H b = none
  tups : Tups H H'
theorem Step.refl (H : Hp) (fp : List Addr) : Step H fp H fp := ⟨fun _ _ h _ => h, fun _ h => .inl h, Tups.refl H⟩
theorem Step.gone {H H' : Hp} {fp fp' : List Addr} (a : Step H fp H' fp') {b : Addr} (h : H' b = none) : b ∈ fp ∨ H b = none := by
  by_cases hb : b ∈ fp
  · exact .inl hb
  · cases e : H b with
    | none => exact .inr rfl
    | some o => rw [a.keep b o e hb] at h; cases h
theorem Step.trans {H H1 H2 : Hp} {fp fp1 fp2 : List Addr} (a : Step H fp H1 fp1) (b : Step H1 fp1 H2 fp2) : Step H fp H2 fp2 where
  keep := fun c o h hc => b.keep c o (a.keep c o h hc) fun z => (a.new c z).elim hc fun q => by rw [h] at q; cases q
  new := fun c hc => (b.new c hc).elim (fun z => a.new c z) fun z => a.gone z
  tups := a.tups.trans b.tups
/-- what stood before and lies outside of the footprint is as it was and lies outside of the new one -/
theorem Step.out {H H' : Hp} {fp fp' : List Addr} (a : Step H fp H' fp') {b : Addr} {o : HO} (h : H b = some o) (hb : b ∉ fp) : H' b = some o ∧ b ∉ fp' :=
  ⟨a.keep b o h hb, fun z => (a.new b z).elim hb fun q => by rw [h] at q; cases q⟩
/-- a bigger footprint on both sides -/
theorem Step.wide {H H' : Hp} {fp fp' gp gp' : List Addr} (a : Step H fp H' fp') (h1 : ∀ b, b ∈ fp → b ∈ gp) (h2 : ∀ b, b ∈ gp' → b ∈ fp' ∨ b ∈ gp) : Step H gp H' gp' where
  keep := fun b o h hb => a.keep b o h fun z => hb (h1 b z)
  new := fun b hb => (h2 b hb).elim (fun z => (a.new b z).imp (h1 b) id) .inl
  tups := a.tups
/-- new objects alone -/
theorem Step.same {H H' : Hp} {fp : List Addr} (s : Same H H') : Step H fp H' fp := ⟨fun b o h _ => s b o h, fun _ h => .inl h, Tups.of_same s⟩
theorem Step.from_same {H H1 H2 : Hp} {fp fp' : List Addr} (s : Same H H1) (a : Step H1 fp H2 fp') : Step H fp H2 fp' := (Step.same s).trans a

/-! ### trails and notes on the heap -/
structure Co where
  tr : Addr
  nt : Addr
  ms : List Addr
  ns : List Addr
def Co.fp (c : Co) : List Addr := c.tr :: c.nt :: (c.ms ++ c.ns)
structure CoAt (H : Hp) (c : Co) (s : MS) : Prop where
  nd : c.fp.Nodup
  htr : H c.tr = some (.lst (c.ms.map .ref))
  hnt : H c.nt = some (.lst (c.ns.map .ref))
  lm : c.ms.length = s.tr.length
  ln : c.ns.length = s.nt.length
  hm : ∀ i a, c.ms[i]? = some a → ∃ xs, H a = some (.lst xs) ∧ DtAll H xs (s.tr.getD i [])
  hn : ∀ i a, c.ns[i]? = some a → H a = some (.dK (kv (s.nt.getD i [])))
section
variable {H H' : Hp} {c : Co} {s : MS} {i : Nat} {a p : Addr}
theorem Co.in_ms (h : c.ms[i]? = some a) : a ∈ c.fp := by
  unfold Co.fp
  exact List.mem_cons_of_mem _ (List.mem_cons_of_mem _ (List.mem_append_left _ (List.mem_of_getElem? h)))
theorem Co.in_ns (h : c.ns[i]? = some a) : a ∈ c.fp := by
  unfold Co.fp
  exact List.mem_cons_of_mem _ (List.mem_cons_of_mem _ (List.mem_append_right _ (List.mem_of_getElem? h)))
theorem Co.in_tr : c.tr ∈ c.fp := List.mem_cons_self
theorem Co.in_nt : c.nt ∈ c.fp := List.mem_cons_of_mem _ List.mem_cons_self
/-- what stands at an address of the footprint: a list or a dict -/
def IsLD (o : HO) : Prop := (∃ xs, o = .lst xs) ∨ ∃ k, o = .dK k
theorem CoAt.live (C : CoAt H c s) : ∀ b ∈ c.fp, ∃ o, H b = some o ∧ IsLD o := by
  intro b hb
  unfold Co.fp at hb
  rcases List.mem_cons.mp hb with e | hb
  · subst e; exact ⟨_, C.htr, .inl ⟨_, rfl⟩⟩
  rcases List.mem_cons.mp hb with e | hb
  · subst e; exact ⟨_, C.hnt, .inl ⟨_, rfl⟩⟩
  rcases List.mem_append.mp hb with hb | hb
  · obtain ⟨j, hj⟩ := List.getElem?_of_mem hb
    obtain ⟨xs, h, _⟩ := C.hm j b hj
    exact ⟨_, h, .inl ⟨_, rfl⟩⟩
  · obtain ⟨j, hj⟩ := List.getElem?_of_mem hb
    exact ⟨_, C.hn j b hj, .inr ⟨_, rfl⟩⟩
theorem CoAt.notup (C : CoAt H c s) {b : Addr} (hb : b ∈ c.fp) : ∀ xs, H b ≠ some (.tup xs) := fun xs e => by
  obtain ⟨o, h, l⟩ := C.live b hb
  rw [h] at e; cases e
  rcases l with ⟨_, q⟩ | ⟨_, q⟩ <;> cases q
theorem CoAt.fresh (C : CoAt H c s) {b : Addr} (h : H b = none) : b ∉ c.fp := fun hb => by
  obtain ⟨o, e, _⟩ := C.live b hb
  rw [h] at e; cases e
theorem CoAt.ms_at (C : CoAt H c s) (h : i < s.tr.length) : ∃ a, c.ms[i]? = some a ∧ a ∈ c.fp ∧ ∃ xs, H a = some (.lst xs) ∧ DtAll H xs (s.tr.getD i []) := by
  have hi : i < c.ms.length := by rw [C.lm]; exact h
  have e : c.ms[i]? = some c.ms[i] := List.getElem?_eq_getElem hi
  exact ⟨_, e, Co.in_ms e, C.hm i _ e⟩
theorem CoAt.ns_at (C : CoAt H c s) (h : i < s.nt.length) : ∃ a, c.ns[i]? = some a ∧ a ∈ c.fp ∧ H a = some (.dK (kv (s.nt.getD i []))) := by
  have hi : i < c.ns.length := by rw [C.ln]; exact h
  have e : c.ns[i]? = some c.ns[i] := List.getElem?_eq_getElem hi
  exact ⟨_, e, Co.in_ns e, C.hn i _ e⟩
theorem ref_at {l : List Addr} (h : l[i]? = some a) : (l.map V.ref)[i]? = some (.ref a) := by rw [List.getElem?_map, h]; rfl
/-- all of the footprint is as it was, the tuples too -/
theorem CoAt.move (C : CoAt H c s) (k : ∀ b ∈ c.fp, H' b = H b) (t : Tups H H') : CoAt H' c s :=
  ⟨C.nd, by rw [k _ Co.in_tr]; exact C.htr, by rw [k _ Co.in_nt]; exact C.hnt, C.lm, C.ln, fun j b hb => by
    obtain ⟨xs, h, d⟩ := C.hm j b hb
    exact ⟨xs, by rw [k _ (Co.in_ms hb)]; exact h, d.to t⟩, fun j b hb => by rw [k _ (Co.in_ns hb)]; exact C.hn j b hb⟩
theorem CoAt.step {fp fp' : List Addr} (C : CoAt H c s) (a : Step H fp H' fp') (h : ∀ b ∈ c.fp, b ∉ fp) : CoAt H' c s :=
  C.move (fun b hb => by
    obtain ⟨o, e, _⟩ := C.live b hb
    rw [e]; exact a.keep b o e (h b hb)) a.tups
theorem CoAt.same (C : CoAt H c s) (a : Same H H') : CoAt H' c s := C.step (Step.same (fp := []) a) fun _ _ => by simp
/-- the parts of the footprint lie apart -/
theorem CoAt.parts (C : CoAt H c s) : c.tr ≠ c.nt ∧ c.tr ∉ c.ms ∧ c.tr ∉ c.ns ∧ c.nt ∉ c.ms ∧ c.nt ∉ c.ns ∧ c.ms.Nodup ∧ c.ns.Nodup ∧ ∀ x ∈ c.ms, x ∉ c.ns := by
  have h := C.nd
  unfold Co.fp at h
  obtain ⟨h1, h2⟩ := List.nodup_cons.mp h
  obtain ⟨h3, h4⟩ := List.nodup_cons.mp h2
  obtain ⟨h5, h6, h7⟩ := List.nodup_append.mp h4
  simp only [List.mem_cons, List.mem_append, not_or] at h1 h3
  exact ⟨h1.1, h1.2.1, h1.2.2, h3.1, h3.2, h5, h6, fun x hx hy => h7 x hx x hy rfl⟩
theorem mem_set_imp {l : List Addr} {x : Addr} (h : x ∈ l.set i p) : x = p ∨ x ∈ l := (List.mem_or_eq_of_mem_set h).symm
theorem nodup_set {l : List Addr} (h : l.Nodup) (hp : p ∉ l) : (l.set i p).Nodup := by
  induction l generalizing i with
  | nil => simp
  | cons x r ih =>
    obtain ⟨h1, h2⟩ := List.nodup_cons.mp h
    have hx : p ≠ x := fun e => hp (by rw [e]; exact List.mem_cons_self)
    have hr : p ∉ r := fun z => hp (List.mem_cons_of_mem _ z)
    cases i with
    | zero => exact List.nodup_cons.mpr ⟨hr, h2⟩
    | succ j =>
      refine List.nodup_cons.mpr ⟨fun z => ?_, ih h2 hr⟩
      rcases mem_set_imp z with e | z
      · exact hx e.symm
      · exact h1 z
theorem getD_set {α : Type} {l : List α} {i j : Nat} {x d : α} : (l.set i x).getD j d = if i = j ∧ j < l.length then x else l.getD j d := by
  rw [List.getD_eq_getElem?_getD, List.getD_eq_getElem?_getD]
  by_cases e : i = j
  · subst e
    by_cases h : i < l.length
    · rw [List.getElem?_set_self h, if_pos ⟨rfl, h⟩]; rfl
    · rw [if_neg (fun z => h z.2), List.set_eq_of_length_le (by omega)]
  · rw [List.getElem?_set_ne e, if_neg (fun z => e z.1)]
theorem getD_set_self {α : Type} {l : List α} {i : Nat} {x d : α} (h : i < l.length) : (l.set i x).getD i d = x := by rw [getD_set, if_pos ⟨rfl, h⟩]
theorem getD_set_ne {α : Type} {l : List α} {i j : Nat} {x d : α} (h : i ≠ j) : (l.set i x).getD j d = l.getD j d := by rw [getD_set, if_neg (fun z => h z.1)]

/-- a cell's trail is thrown away for a new list at p -/
theorem CoAt.setNew {xs : List V} {ds : List PyData} (C : CoAt H c s) (hi : i < s.tr.length) (hp : H p = none) (hx : DtAll H xs ds) :
    CoAt (upd (upd H p (.lst xs)) c.tr (.lst ((c.ms.map V.ref).set i (.ref p)))) { c with ms := c.ms.set i p } { s with tr := s.tr.set i ds } ∧
      Step H c.fp (upd (upd H p (.lst xs)) c.tr (.lst ((c.ms.map V.ref).set i (.ref p)))) ({ c with ms := c.ms.set i p } : Co).fp := by
  obtain ⟨p1, p2, p3, p4, p5, p6, p7, p8⟩ := C.parts
  have np : p ∉ c.fp := C.fresh hp
  have nptr : p ≠ c.tr := fun e => np (by rw [e]; exact Co.in_tr)
  have npnt : p ≠ c.nt := fun e => np (by rw [e]; exact Co.in_nt)
  have npms : p ∉ c.ms := fun z => np (by unfold Co.fp; exact List.mem_cons_of_mem _ (List.mem_cons_of_mem _ (List.mem_append_left _ z)))
  have npns : p ∉ c.ns := fun z => np (by unfold Co.fp; exact List.mem_cons_of_mem _ (List.mem_cons_of_mem _ (List.mem_append_right _ z)))
  have t1 : Tups H (upd H p (.lst xs)) := Tups.new hp
  have t2 : Tups (upd H p (.lst xs)) (upd (upd H p (.lst xs)) c.tr (.lst ((c.ms.map V.ref).set i (.ref p)))) := Tups.upd_of fun ys e => by
    rw [upd_ne nptr.symm] at e
    exact C.notup Co.in_tr ys e
  have t := t1.trans t2
  have at_ : ∀ b, b ≠ p → b ≠ c.tr → (upd (upd H p (.lst xs)) c.tr (.lst ((c.ms.map V.ref).set i (.ref p)))) b = H b := fun b h1 h2 => by rw [upd_ne h2, upd_ne h1]
  refine ⟨⟨?_, ?_, ?_, ?_, C.ln, fun j b hb => ?_, fun j b hb => ?_⟩, ⟨fun b o e hb => ?_, fun b hb => ?_, t⟩⟩
  · show (c.tr :: c.nt :: (c.ms.set i p ++ c.ns)).Nodup
    refine List.nodup_cons.mpr ⟨?_, List.nodup_cons.mpr ⟨?_, List.nodup_append.mpr ⟨nodup_set p6 npms, p7, ?_⟩⟩⟩
    · simp only [List.mem_cons, List.mem_append, not_or]
      exact ⟨p1, fun z => (mem_set_imp z).elim (fun e => nptr e.symm) p2, p3⟩
    · simp only [List.mem_append, not_or]
      exact ⟨fun z => (mem_set_imp z).elim (fun e => npnt e.symm) p4, p5⟩
    · intro x hx y hy e
      subst e
      rcases mem_set_imp hx with e | hx
      · subst e; exact npns hy
      · exact p8 x hx hy
  · show upd _ c.tr _ c.tr = some (.lst ((c.ms.set i p).map V.ref))
    rw [upd_same, List.map_set]
  · show upd _ c.tr _ c.nt = _
    rw [at_ _ npnt.symm p1.symm]; exact C.hnt
  · show (c.ms.set i p).length = (s.tr.set i ds).length
    rw [List.length_set, List.length_set]; exact C.lm
  · have hb' : (c.ms.set i p)[j]? = some b := hb
    by_cases e : i = j
    · subst e
      rw [List.getElem?_set_self (by rw [C.lm]; exact hi)] at hb'
      cases hb'
      refine ⟨xs, ?_, ?_⟩
      · rw [upd_ne nptr, upd_same]
      · rw [show ({ s with tr := s.tr.set i ds } : MS).tr.getD i [] = ds from getD_set_self hi]
        exact hx.to t
    · rw [List.getElem?_set_ne e] at hb'
      obtain ⟨ys, h, d⟩ := C.hm j b hb'
      have hbm := List.mem_of_getElem? hb'
      refine ⟨ys, ?_, ?_⟩
      · rw [at_ b (fun z => npms (by rw [← z]; exact hbm)) (fun z => p2 (by rw [← z]; exact hbm))]; exact h
      · rw [show ({ s with tr := s.tr.set i ds } : MS).tr.getD j [] = s.tr.getD j [] from getD_set_ne e]
        exact d.to t
  · have hbm := List.mem_of_getElem? hb
    rw [at_ b (fun z => npns (by rw [← z]; exact hbm)) (fun z => p3 (by rw [← z]; exact hbm))]; exact C.hn j b hb
  · rw [at_ b (ne_of_none e hp) (fun z => hb (by rw [z]; exact Co.in_tr))]; exact e
  · have hb' : b ∈ c.tr :: c.nt :: (c.ms.set i p ++ c.ns) := hb
    unfold Co.fp
    rcases List.mem_cons.mp hb' with e | hb'
    · exact .inl (by rw [e]; exact List.mem_cons_self)
    rcases List.mem_cons.mp hb' with e | hb'
    · exact .inl (by rw [e]; exact List.mem_cons_of_mem _ List.mem_cons_self)
    rcases List.mem_append.mp hb' with hb' | hb'
    · rcases mem_set_imp hb' with e | hb'
      · exact .inr (by rw [e]; exact hp)
      · exact .inl (List.mem_cons_of_mem _ (List.mem_cons_of_mem _ (List.mem_append_left _ hb')))
    · exact .inl (List.mem_cons_of_mem _ (List.mem_cons_of_mem _ (List.mem_append_right _ hb')))
/-- a value is put at a trail's end -/
theorem CoAt.app {xs : List V} {ds : List PyData} (C : CoAt H c s) (ha : c.ms[i]? = some a) (hx : DtAll H xs ds) :
    CoAt (upd H a (.lst xs)) c { s with tr := s.tr.set i ds } ∧ Step H c.fp (upd H a (.lst xs)) c.fp := by
  obtain ⟨p1, p2, p3, p4, p5, p6, p7, p8⟩ := C.parts
  have am := List.mem_of_getElem? ha
  have t : Tups H (upd H a (.lst xs)) := Tups.upd_of (C.notup (Co.in_ms ha))
  have hi : i < c.ms.length := (List.getElem?_eq_some_iff.mp ha).1
  refine ⟨⟨C.nd, ?_, ?_, ?_, C.ln, fun j b hb => ?_, fun j b hb => ?_⟩, ⟨fun b o e hb => ?_, fun b hb => .inl hb, t⟩⟩
  · rw [upd_ne (fun z => p2 (by rw [z]; exact am))]; exact C.htr
  · rw [upd_ne (fun z => p4 (by rw [z]; exact am))]; exact C.hnt
  · show _ = (s.tr.set i ds).length
    rw [List.length_set]; exact C.lm
  · by_cases e : i = j
    · subst e
      rw [ha] at hb; cases hb
      refine ⟨xs, upd_same, ?_⟩
      rw [show ({ s with tr := s.tr.set i ds } : MS).tr.getD i [] = ds from getD_set_self (by rw [← C.lm]; exact hi)]
      exact hx.to t
    · obtain ⟨ys, h, d⟩ := C.hm j b hb
      refine ⟨ys, ?_, ?_⟩
      · rw [upd_ne]
        · exact h
        · intro z; subst z; exact e (nd_ix p6 ha hb)
      · rw [show ({ s with tr := s.tr.set i ds } : MS).tr.getD j [] = s.tr.getD j [] from getD_set_ne e]
        exact d.to t
  · rw [upd_ne]
    · exact C.hn j b hb
    · intro z; subst z; exact p8 b am (List.mem_of_getElem? hb)
  · rw [upd_ne]
    · exact e
    · intro z; subst z; exact hb (Co.in_ms ha)
/-- a note is written -/
theorem CoAt.setNote {l : NL} (C : CoAt H c s) (ha : c.ns[i]? = some a) :
    CoAt (upd H a (.dK (kv l))) c { s with nt := s.nt.set i l } ∧ Step H c.fp (upd H a (.dK (kv l))) c.fp := by
  obtain ⟨p1, p2, p3, p4, p5, p6, p7, p8⟩ := C.parts
  have am := List.mem_of_getElem? ha
  have t : Tups H (upd H a (.dK (kv l))) := Tups.upd_of (C.notup (Co.in_ns ha))
  have hi : i < c.ns.length := (List.getElem?_eq_some_iff.mp ha).1
  refine ⟨⟨C.nd, ?_, ?_, C.lm, ?_, fun j b hb => ?_, fun j b hb => ?_⟩, ⟨fun b o e hb => ?_, fun b hb => .inl hb, t⟩⟩
  · rw [upd_ne (fun z => p3 (by rw [z]; exact am))]; exact C.htr
  · rw [upd_ne (fun z => p5 (by rw [z]; exact am))]; exact C.hnt
  · show _ = (s.nt.set i l).length
    rw [List.length_set]; exact C.ln
  · obtain ⟨ys, h, d⟩ := C.hm j b hb
    refine ⟨ys, ?_, d.to t⟩
    rw [upd_ne]
    · exact h
    · intro z; subst z; exact p8 b (List.mem_of_getElem? hb) am
  · by_cases e : i = j
    · subst e
      rw [ha] at hb; cases hb
      rw [upd_same, show ({ s with nt := s.nt.set i l } : MS).nt.getD i [] = l from getD_set_self (by rw [← C.ln]; exact hi)]
    · rw [upd_ne, show ({ s with nt := s.nt.set i l } : MS).nt.getD j [] = s.nt.getD j [] from getD_set_ne e]
      · exact C.hn j b hb
      · intro z; subst z; exact e (nd_ix p7 ha hb)
  · rw [upd_ne]
    · exact e
    · intro z; subst z; exact hb (Co.in_ns ha)
/-- a thread's notes are thrown away for a new dict at p -/
theorem CoAt.newNote (C : CoAt H c s) (hi : i < s.nt.length) (hp : H p = none) :
    CoAt (upd (upd H p (.dK [])) c.nt (.lst ((c.ns.map V.ref).set i (.ref p)))) { c with ns := c.ns.set i p } { s with nt := s.nt.set i [] } ∧
      Step H c.fp (upd (upd H p (.dK [])) c.nt (.lst ((c.ns.map V.ref).set i (.ref p)))) ({ c with ns := c.ns.set i p } : Co).fp := by
  obtain ⟨p1, p2, p3, p4, p5, p6, p7, p8⟩ := C.parts
  have np : p ∉ c.fp := C.fresh hp
  have nptr : p ≠ c.tr := fun e => np (by rw [e]; exact Co.in_tr)
  have npnt : p ≠ c.nt := fun e => np (by rw [e]; exact Co.in_nt)
  have npms : p ∉ c.ms := fun z => np (by unfold Co.fp; exact List.mem_cons_of_mem _ (List.mem_cons_of_mem _ (List.mem_append_left _ z)))
  have npns : p ∉ c.ns := fun z => np (by unfold Co.fp; exact List.mem_cons_of_mem _ (List.mem_cons_of_mem _ (List.mem_append_right _ z)))
  have t1 : Tups H (upd H p (.dK [])) := Tups.new hp
  have t2 : Tups (upd H p (.dK [])) (upd (upd H p (.dK [])) c.nt (.lst ((c.ns.map V.ref).set i (.ref p)))) := Tups.upd_of fun ys e => by
    rw [upd_ne npnt.symm] at e
    exact C.notup Co.in_nt ys e
  have t := t1.trans t2
  have at_ : ∀ b, b ≠ p → b ≠ c.nt → (upd (upd H p (.dK [])) c.nt (.lst ((c.ns.map V.ref).set i (.ref p)))) b = H b := fun b h1 h2 => by rw [upd_ne h2, upd_ne h1]
  refine ⟨⟨?_, ?_, ?_, C.lm, ?_, fun j b hb => ?_, fun j b hb => ?_⟩, ⟨fun b o e hb => ?_, fun b hb => ?_, t⟩⟩
  · show (c.tr :: c.nt :: (c.ms ++ c.ns.set i p)).Nodup
    refine List.nodup_cons.mpr ⟨?_, List.nodup_cons.mpr ⟨?_, List.nodup_append.mpr ⟨p6, nodup_set p7 npns, ?_⟩⟩⟩
    · simp only [List.mem_cons, List.mem_append, not_or]
      exact ⟨p1, p2, fun z => (mem_set_imp z).elim (fun e => nptr e.symm) p3⟩
    · simp only [List.mem_append, not_or]
      exact ⟨p4, fun z => (mem_set_imp z).elim (fun e => npnt e.symm) p5⟩
    · intro x hx y hy e
      subst e
      rcases mem_set_imp hy with e | hy
      · subst e; exact npms hx
      · exact p8 x hx hy
  · rw [at_ _ nptr.symm p1]; exact C.htr
  · show upd _ c.nt _ c.nt = some (.lst ((c.ns.set i p).map V.ref))
    rw [upd_same, List.map_set]
  · show (c.ns.set i p).length = (s.nt.set i []).length
    rw [List.length_set, List.length_set]; exact C.ln
  · obtain ⟨ys, h, d⟩ := C.hm j b hb
    have hbm := List.mem_of_getElem? hb
    refine ⟨ys, ?_, d.to t⟩
    rw [at_ b (fun z => npms (by rw [← z]; exact hbm)) (fun z => p4 (by rw [← z]; exact hbm))]; exact h
  · have hb' : (c.ns.set i p)[j]? = some b := hb
    by_cases e : i = j
    · subst e
      rw [List.getElem?_set_self (by rw [C.ln]; exact hi)] at hb'
      cases hb'
      rw [upd_ne npnt, upd_same, show ({ s with nt := s.nt.set i [] } : MS).nt.getD i [] = [] from getD_set_self hi]
      rfl
    · rw [List.getElem?_set_ne e] at hb'
      have hbm := List.mem_of_getElem? hb'
      rw [at_ b (fun z => npns (by rw [← z]; exact hbm)) (fun z => p5 (by rw [← z]; exact hbm)), show ({ s with nt := s.nt.set i [] } : MS).nt.getD j [] = s.nt.getD j [] from getD_set_ne e]
      exact C.hn j b hb'
  · rw [at_ b (ne_of_none e hp) (fun z => hb (by rw [z]; exact Co.in_nt))]; exact e
  · have hb' : b ∈ c.tr :: c.nt :: (c.ms ++ c.ns.set i p) := hb
    unfold Co.fp
    rcases List.mem_cons.mp hb' with e | hb'
    · exact .inl (by rw [e]; exact List.mem_cons_self)
    rcases List.mem_cons.mp hb' with e | hb'
    · exact .inl (by rw [e]; exact List.mem_cons_of_mem _ List.mem_cons_self)
    rcases List.mem_append.mp hb' with hb' | hb'
    · exact .inl (List.mem_cons_of_mem _ (List.mem_cons_of_mem _ (List.mem_append_left _ hb')))
    · rcases mem_set_imp hb' with e | hb'
      · exact .inr (by rw [e]; exact hp)
      · exact .inl (List.mem_cons_of_mem _ (List.mem_cons_of_mem _ (List.mem_append_right _ hb')))
end

/-! ### a memory -/
structure MA where
  p : Addr
  ly : Addr
  rows : Addr
  dx : Addr
  dl : Addr
  co : Co
def MA.fp (m : MA) : List Addr := m.p :: m.ly :: m.rows :: m.co.fp
/-- the attributes of a Memory, of its Layout -/
def mf (ly : Addr) (n : Nat) (rows tr nt : Addr) : List (Str × V) := [("layout", .ref ly), ("count", .int (n : Int)), ("rows", .ref rows), ("trails", .ref tr), ("notes", .ref nt)]
def lf : List (Str × V) := [("threads", .int 2), ("words", .int 2), ("records", .int 6)]
structure MemAt (CM CL : Addr) (H : Hp) (m : MA) (s : MS) (n : Nat) : Prop where
  nd : m.fp.Nodup
  hp : H m.p = some (.ins CM m.dx (mf m.ly n m.rows m.co.tr m.co.nt))
  hly : H m.ly = some (.ins CL m.dl lf)
  hrows : ∃ rs, H m.rows = some (.lst rs) ∧ rs.length = n
  co : CoAt H m.co s
/-! ### the law's own lists -/
structure LA where
  w : Addr
  co : Co
def LA.fp (a : LA) : List Addr := a.w :: a.co.fp
def wk (n : Nat) (tr nt : Addr) : List (Key × V) := [(.inr "count", .int (n : Int)), (.inr "trails", .ref tr), (.inr "notes", .ref nt)]
structure LawAt (H : Hp) (a : LA) (s : MS) (n : Nat) : Prop where
  nd : a.fp.Nodup
  hw : H a.w = some (.dK (wk n a.co.tr a.co.nt))
  co : CoAt H a.co s
section
variable {CM CL : Addr} {H H' : Hp} {m : MA} {a : LA} {s s' : MS} {n : Nat} {c' : Co}
theorem MA.sub {b : Addr} (h : b ∈ m.co.fp) : b ∈ m.fp := List.mem_cons_of_mem _ (List.mem_cons_of_mem _ (List.mem_cons_of_mem _ h))
theorem LA.sub {b : Addr} (h : b ∈ a.co.fp) : b ∈ a.fp := List.mem_cons_of_mem _ h
theorem MemAt.parts (M : MemAt CM CL H m s n) : m.p ≠ m.ly ∧ m.p ≠ m.rows ∧ m.ly ≠ m.rows ∧ m.p ∉ m.co.fp ∧ m.ly ∉ m.co.fp ∧ m.rows ∉ m.co.fp := by
  have h := M.nd
  unfold MA.fp at h
  obtain ⟨h1, h2⟩ := List.nodup_cons.mp h
  obtain ⟨h3, h4⟩ := List.nodup_cons.mp h2
  obtain ⟨h5, h6⟩ := List.nodup_cons.mp h4
  simp only [List.mem_cons, not_or] at h1 h3
  exact ⟨h1.1, h1.2.1, h3.1, h1.2.2, h3.2, h5⟩
theorem MemAt.live (M : MemAt CM CL H m s n) : ∀ b ∈ m.fp, ∃ o, H b = some o ∧ ∀ xs, o ≠ .tup xs := by
  intro b hb
  unfold MA.fp at hb
  rcases List.mem_cons.mp hb with e | hb
  · subst e; exact ⟨_, M.hp, fun _ q => by cases q⟩
  rcases List.mem_cons.mp hb with e | hb
  · subst e; exact ⟨_, M.hly, fun _ q => by cases q⟩
  rcases List.mem_cons.mp hb with e | hb
  · obtain ⟨rs, h, _⟩ := M.hrows
    subst e; exact ⟨_, h, fun _ q => by cases q⟩
  · obtain ⟨o, h, l⟩ := M.co.live b hb
    exact ⟨o, h, fun _ q => by subst q; rcases l with ⟨_, q⟩ | ⟨_, q⟩ <;> cases q⟩
theorem MemAt.fresh (M : MemAt CM CL H m s n) {b : Addr} (h : H b = none) : b ∉ m.fp := fun hb => by
  obtain ⟨o, e, _⟩ := M.live b hb
  rw [h] at e; cases e
theorem LawAt.live (L : LawAt H a s n) : ∀ b ∈ a.fp, ∃ o, H b = some o ∧ ∀ xs, o ≠ .tup xs := by
  intro b hb
  rcases List.mem_cons.mp hb with e | hb
  · subst e; exact ⟨_, L.hw, fun _ q => by cases q⟩
  · obtain ⟨o, h, l⟩ := L.co.live b hb
    exact ⟨o, h, fun _ q => by subst q; rcases l with ⟨_, q⟩ | ⟨_, q⟩ <;> cases q⟩
theorem LawAt.fresh (L : LawAt H a s n) {b : Addr} (h : H b = none) : b ∉ a.fp := fun hb => by
  obtain ⟨o, e, _⟩ := L.live b hb
  rw [h] at e; cases e
/-- nothing of a memory changes -/
theorem MemAt.step {fp fp' : List Addr} (M : MemAt CM CL H m s n) (t : Step H fp H' fp') (h : ∀ b ∈ m.fp, b ∉ fp) : MemAt CM CL H' m s n :=
  ⟨M.nd, t.keep _ _ M.hp (h _ List.mem_cons_self), t.keep _ _ M.hly (h _ (List.mem_cons_of_mem _ List.mem_cons_self)),
    let ⟨rs, e, l⟩ := M.hrows; ⟨rs, t.keep _ _ e (h _ (List.mem_cons_of_mem _ (List.mem_cons_of_mem _ List.mem_cons_self))), l⟩, M.co.step t fun b hb => h b (MA.sub hb)⟩
theorem MemAt.same (M : MemAt CM CL H m s n) (t : Same H H') : MemAt CM CL H' m s n := M.step (Step.same (fp := []) t) fun _ _ => by simp
theorem LawAt.step {fp fp' : List Addr} (L : LawAt H a s n) (t : Step H fp H' fp') (h : ∀ b ∈ a.fp, b ∉ fp) : LawAt H' a s n :=
  ⟨L.nd, t.keep _ _ L.hw (h _ List.mem_cons_self), L.co.step t fun b hb => h b (LA.sub hb)⟩
theorem LawAt.same (L : LawAt H a s n) (t : Same H H') : LawAt H' a s n := L.step (Step.same (fp := []) t) fun _ _ => by simp
/-- the trails or the notes of a memory change in their own footprint -/
theorem MemAt.inner (M : MemAt CM CL H m s n) (C : CoAt H' c' s') (t : Step H m.co.fp H' c'.fp) (e1 : c'.tr = m.co.tr) (e2 : c'.nt = m.co.nt) :
    MemAt CM CL H' { m with co := c' } s' n ∧ Step H m.fp H' ({ m with co := c' } : MA).fp := by
  obtain ⟨p1, p2, p3, p4, p5, p6⟩ := M.parts
  obtain ⟨rs, hr, hl⟩ := M.hrows
  have q1 := t.out M.hp p4
  have q2 := t.out M.hly p5
  have q3 := t.out hr p6
  refine ⟨⟨?_, ?_, q2.1, ⟨rs, q3.1, hl⟩, C⟩, t.wide (fun b hb => MA.sub hb) fun b hb => ?_⟩
  · show (m.p :: m.ly :: m.rows :: c'.fp).Nodup
    refine List.nodup_cons.mpr ⟨?_, List.nodup_cons.mpr ⟨?_, List.nodup_cons.mpr ⟨q3.2, C.nd⟩⟩⟩
    · simp only [List.mem_cons, not_or]; exact ⟨p1, p2, q1.2⟩
    · simp only [List.mem_cons, not_or]; exact ⟨p3, q2.2⟩
  · show H' m.p = some (.ins CM m.dx (mf m.ly n m.rows c'.tr c'.nt))
    rw [e1, e2]; exact q1.1
  · have hb' : b ∈ m.p :: m.ly :: m.rows :: c'.fp := hb
    unfold MA.fp
    simp only [List.mem_cons] at hb' ⊢
    rcases hb' with e | e | e | e
    · exact .inr (.inl e)
    · exact .inr (.inr (.inl e))
    · exact .inr (.inr (.inr (.inl e)))
    · exact .inl e
theorem LawAt.inner (L : LawAt H a s n) (C : CoAt H' c' s') (t : Step H a.co.fp H' c'.fp) (e1 : c'.tr = a.co.tr) (e2 : c'.nt = a.co.nt) :
    LawAt H' { a with co := c' } s' n ∧ Step H a.fp H' ({ a with co := c' } : LA).fp := by
  have nw : a.w ∉ a.co.fp := (List.nodup_cons.mp L.nd).1
  have q1 := t.out L.hw nw
  refine ⟨⟨?_, ?_, C⟩, t.wide (fun b hb => LA.sub hb) fun b hb => ?_⟩
  · show (a.w :: c'.fp).Nodup
    exact List.nodup_cons.mpr ⟨q1.2, C.nd⟩
  · show H' a.w = some (.dK (wk n c'.tr c'.nt))
    rw [e1, e2]; exact q1.1
  · rcases List.mem_cons.mp (show b ∈ a.w :: c'.fp from hb) with e | e
    · exact .inr (by rw [e]; exact List.mem_cons_self)
    · exact .inl e
end
end DK

set_option linter.all false
set_option maxHeartbeats 4000000
/-! The text by places, what is known of it, the smallest defs. -/
namespace DK
open PySem L2

def top (i : Nat) : Stmt := PySem.Challenge.pw_driftkept_k02_whole_memory_that_lasts.main.body.getD i (.Pass ⟨0, 0, 0, 0⟩)
abbrev sWithin : Stmt := top 10
abbrev sLInit : Stmt := inClass (top 11) 0
abbrev sEpoch : Stmt := inClass (top 11) 1
abbrev sCallSlot : Stmt := inClass (top 11) 3
abbrev sWord : Stmt := inClass (top 11) 4
abbrev sRecord : Stmt := inClass (top 11) 5
abbrev sCells : Stmt := inClass (top 11) 6
abbrev sIsLasting : Stmt := inClass (top 11) 8
abbrev sMInit : Stmt := inClass (top 12) 0
abbrev sNoNotes : Stmt := inClass (top 12) 1
abbrev sCheckCell : Stmt := inClass (top 12) 2
abbrev sCheckLasting : Stmt := inClass (top 12) 3
abbrev sCheckRequest : Stmt := inClass (top 12) 4
abbrev sAccess : Stmt := inClass (top 12) 5
abbrev sResult : Stmt := inClass (top 12) 6
abbrev sGive : Stmt := inClass (top 12) 7
abbrev sFence : Stmt := inClass (top 12) 8
abbrev sShorten : Stmt := inClass (top 12) 9
abbrev sPeek : Stmt := inClass (top 12) 10
abbrev sLasting : Stmt := inClass (top 12) 11
abbrev sTrail : Stmt := inClass (top 12) 12
abbrev sDrift : Stmt := inClass (top 12) 13
abbrev sCut : Stmt := inClass (top 12) 14
abbrev sLog : Stmt := inClass (top 12) 15
abbrev sTape : Stmt := top 14
abbrev sAt : Stmt := top 15
abbrev sValue : Stmt := top 16
abbrev sDo : Stmt := top 17
abbrev sWrong : Stmt := top 18
abbrev sLGive : Stmt := top 19
abbrev sLShorten : Stmt := top 20
abbrev sDue : Stmt := top 21
abbrev sLCut : Stmt := top 22
abbrev sRequest : Stmt := top 23
abbrev sSame : Stmt := top 24
abbrev sLooks : Stmt := top 25
abbrev sStep : Stmt := top 26
abbrev sLaw : Stmt := top 27

/-- a method, a def of the module -/
structure DefM (K : PySem.W.Frag) (C : Addr) (x qual : Str) (st : Stmt) (ps : List Str) where
  f : Addr
  fd : FuncData
  F : Fun K x qual st f fd
  b : Binds K fd ps []
  m : Meth K C x f
structure DefG (K : PySem.W.Frag) (mg : Str → Option Value) (x : Str) (st : Stmt) (ps : List Str) where
  f : Addr
  fd : FuncData
  F : Fun K x x st f fd
  b : Binds K fd ps []
  g : mg x = some (.ref f)

/-- an own exception class without __init__ -/
structure ExcT (K : PySem.W.Frag) (C : Addr) : Prop where
  ex : PySem.W.excIn K C [.type "ValueError", .type "Exception", .type "BaseException", .type "object"] "ValueError.__new__" = true
  kp : PySem.W.keepIn K (.ref C) = true
  sb : PySem.W.subIn K (.ref C) (.type "BaseException") = some true
  ty : PySem.W.typeIn K (.ref C) = some (.type "type")
/-- what LENGTHS.get gives for the words that are asked -/
inductive LTab : Str → V → Prop
  | read : LTab "read" (.int 2)
  | write : LTab "write" (.int 3)
  | swap : LTab "swap" (.int 4)
  | dec : LTab "decide" (.int 3)
  | flush : LTab "flush" (.int 2)
  | fence : LTab "fence" (.int 1)
  | end_ : LTab "end" .non
structure Txt (w : World) (K : PySem.W.Frag) (mg : Str → Option Value) where
  CL : Addr
  CM : Addr
  NV : Addr
  LE : Addr
  LD : Addr
  -- classes
  clL : Cls K CL
  clM : Cls K CM
  mkL : PySem.W.makesIn K CL = true
  mkM : PySem.W.makesIn K CM = true
  kcL : PySem.W.keepIn K (.ref CL) = true
  kcM : PySem.W.keepIn K (.ref CM) = true
  gL : mg "Layout" = some (.ref CL)
  gM : mg "Memory" = some (.ref CM)
  gNV : mg "NotValid" = some (.ref NV)
  gLE : mg "LineError" = some (.ref LE)
  gLD : mg "LENGTHS" = some (.ref LD)
  nThreads : NoAttr K CL "threads"
  nWords : NoAttr K CL "words"
  nRecords : NoAttr K CL "records"
  nLayout : NoAttr K CM "layout"
  nCount : NoAttr K CM "count"
  nRows : NoAttr K CM "rows"
  nTrails : NoAttr K CM "trails"
  nNotes : NoAttr K CM "notes"
  -- the exception
  nv : ExcT K NV
  exm : PySem.W.exmOne K (.ref NV) (.ref LE) = some true
  kitNV : PySem.W.kitOne K (.ref NV) (.ref NV) = some true
  exC : ExcC K NV
  -- constants
  mThreads : ∃ t, mg "MOST_THREADS" = some (.int 3 t)
  mWords : ∃ t, mg "MOST_WORDS" = some (.int 4 t)
  lRecords : ∃ t, mg "LEAST_RECORDS" = some (.int 4 t)
  mRecords : ∃ t, mg "MOST_RECORDS" = some (.int 200 t)
  -- the dict LENGTHS
  lens : ∃ es n, KDict K w LD es n
  lenAt : ∀ x v, LTab x v → ∃ r, PySem.W.nsIn K LD x = some r ∧ RelV v (r.getD .none)
  -- built-ins
  bIsinstance : mg "isinstance" = none
  bInt : mg "int" = none
  bBool : mg "bool" = none
  bTuple : mg "tuple" = none
  bList : mg "list" = none
  bDict : mg "dict" = none
  bLen : mg "len" = none
  bRange : mg "range" = none
  bSorted : mg "sorted" = none
  bMin : mg "min" = none
  bMax : mg "max" = none
  bAbs : mg "abs" = none
  -- defs
  within : DefG K mg "is_within" sWithin ["value", "low", "high"]
  lInit : DefM K CL "__init__" "Layout.__init__" sLInit ["self", "threads", "words", "records"]
  epoch : DefM K CL "epoch" "Layout.epoch" sEpoch ["self"]
  callSlot : DefM K CL "call_slot" "Layout.call_slot" sCallSlot ["self", "thread"]
  word : DefM K CL "word" "Layout.word" sWord ["self", "index"]
  record : DefM K CL "record" "Layout.record" sRecord ["self", "index"]
  cells : DefM K CL "cells" "Layout.cells" sCells ["self"]
  isLasting : DefM K CL "is_lasting" "Layout.is_lasting" sIsLasting ["self", "cell"]
  mInit : DefM K CM "__init__" "Memory.__init__" sMInit ["self", "layout"]
  noNotes : DefM K CM "no_notes" "Memory.no_notes" sNoNotes ["self"]
  checkCell : DefM K CM "check_cell" "Memory.check_cell" sCheckCell ["self", "cell"]
  checkLasting : DefM K CM "check_lasting" "Memory.check_lasting" sCheckLasting ["self", "cell"]
  checkRequest : DefM K CM "check_request" "Memory.check_request" sCheckRequest ["self", "thread", "request"]
  access : DefM K CM "access" "Memory.access" sAccess ["self", "thread", "request"]
  result : DefM K CM "result" "Memory.result" sResult ["self", "thread", "request"]
  give : DefM K CM "give" "Memory.give" sGive ["self", "cell", "value"]
  fence : DefM K CM "fence" "Memory.fence" sFence ["self", "thread"]
  shorten : DefM K CM "shorten" "Memory.shorten" sShorten ["self", "cell", "steps"]
  peek : DefM K CM "peek" "Memory.peek" sPeek ["self", "cell"]
  lasting : DefM K CM "lasting" "Memory.lasting" sLasting ["self", "cell"]
  trail : DefM K CM "trail" "Memory.trail" sTrail ["self", "cell"]
  drift : DefM K CM "drift" "Memory.drift" sDrift ["self", "cell", "steps"]
  cut : DefM K CM "cut" "Memory.cut" sCut ["self", "choices"]
  log : DefM K CM "log" "Memory.log" sLog ["self"]
  tape : DefG K mg "_law_tape" sTape ["_law_script"]
  at_ : DefG K mg "_law_at" sAt ["_law_tape_here", "_law_k"]
  value : DefG K mg "_law_value" sValue ["_law_number"]
  do_ : DefG K mg "_law_do" sDo ["_law_memory", "_law_act", "_law_first", "_law_second"]
  wrong : DefG K mg "_law_wrong" sWrong ["_law_memory", "_law_number"]
  lGive : DefG K mg "_law_give" sLGive ["_law_w", "_law_cell", "_law_value_here"]
  lShorten : DefG K mg "_law_shorten" sLShorten ["_law_w", "_law_cell", "_law_steps"]
  due : DefG K mg "_law_due" sDue ["_law_w", "_law_thread", "_law_request_here"]
  lCut : DefG K mg "_law_cut" sLCut ["_law_w", "_law_choices"]
  request : DefG K mg "_law_request" sRequest ["_law_w", "_law_number", "_law_pick", "_law_other"]
  same : DefG K mg "_law_same" sSame ["_law_told", "_law_due_here"]
  looks : DefG K mg "_law_looks" sLooks ["_law_memory", "_law_w"]
  step : DefG K mg "_law_step" sStep ["_law_memory", "_law_w", "_law_number", "_law_pick", "_law_other"]

theorem boot_isi : bootBuiltins ("isinstance" : Str) = some (.builtin "isinstance") := by decide +kernel
theorem boot_int' : bootBuiltins ("int" : Str) = some (.type "int") := by decide +kernel
theorem boot_bool' : bootBuiltins ("bool" : Str) = some (.type "bool") := by decide +kernel
theorem boot_tuple' : bootBuiltins ("tuple" : Str) = some (.type "tuple") := by decide +kernel
theorem boot_list' : bootBuiltins ("list" : Str) = some (.type "list") := by decide +kernel
theorem boot_dict' : bootBuiltins ("dict" : Str) = some (.type "dict") := by decide +kernel
theorem boot_sorted' : bootBuiltins ("sorted" : Str) = some (.builtin "sorted") := by decide +kernel
theorem boot_min' : bootBuiltins ("min" : Str) = some (.builtin "min") := by decide +kernel
theorem boot_max' : bootBuiltins ("max" : Str) = some (.builtin "max") := by decide +kernel
theorem boot_abs' : bootBuiltins ("abs" : Str) = some (.builtin "abs") := by decide +kernel

section
variable {P : Program} {w : World} {K : PySem.W.Frag} {mg : Str → Option Value} {base : Heap}
/-! ### is_within -/
theorem scWithin : FnScope ["value", "low", "high"] ["value", "low", "high"] (defScope sWithin) := ⟨rfl, rfl, rfl, by decide +kernel, rfl, by decide +kernel, by decide +kernel⟩
def spWithin : Sp := fun vs H Q _ => ∃ i lo hi : Int, vs = [.int i, .int lo, .int hi] ∧ Q (.bl (decide (lo ≤ i ∧ i ≤ hi))) H
theorem kit_ii {K : PySem.W.Frag} : PySem.W.kitOne K (.type "int") (.type "int") = some true := kit_ty (by decide +kernel)
theorem kit_ib {K : PySem.W.Frag} : PySem.W.kitOne K (.type "int") (.type "bool") = some false := kit_ty (by decide +kernel)
theorem ok_within (T : Txt w K mg) : FnOk P w K mg base CX0 1 T.within.f T.within.fd ["value", "low", "high"] spWithin := by
  refine T.within.F.ok scWithin (fun vs H Q E h => ?_) (fun cdv A outer s H vs Q E hr h => ?_)
  · obtain ⟨i, lo, hi, rfl, _⟩ := h
    rfl
  · obtain ⟨i, lo, hi, rfl, k⟩ := h
    refine ⟨_, pss_one (ps_ret (pe_and (pe_callB call_isi (by rfl) T.bIsinstance boot_isi (pa_cons (pv 0) (pa_cons (pe_bltn (v := .ty "int") (by rfl) T.bInt boot_int' rfl) pa_nil)))
      (pe_and (pe_not (pe_callB call_isi (by rfl) T.bIsinstance boot_isi (pa_cons (pv 0) (pa_cons (pe_bltn (v := .ty "bool") (by rfl) T.bBool boot_bool' rfl) pa_nil))))
        (pe_one (pe_chain op_le op_le (pv 1) (pv 0) (pv 2)))))), ?_⟩
    refine ⟨_, rfl, _, _, _, _, true, rfl, .ty "int", .base (.int i), kit_ii, true, rfl, iteT ?_⟩
    refine ⟨_, rfl, _, _, _, _, false, rfl, .ty "bool", .base (.int i), kit_ib, false, rfl, true, rfl, iteT ?_⟩
    refine ⟨_, rfl, _, rfl, _, _, rfl, rfl, _, rfl, ?_⟩
    refine ite2 (fun h1 => ?_) (fun h1 => ?_)
    · refine ⟨_, rfl, _, _, rfl, rfl, ?_⟩
      have h1' : lo ≤ i := of_decide_eq_true h1
      have e : decide (i ≤ hi) = decide (lo ≤ i ∧ i ≤ hi) := by
        by_cases q : i ≤ hi
        · rw [decide_eq_true q, decide_eq_true ⟨h1', q⟩]
        · rw [decide_eq_false q, decide_eq_false (fun z => q z.2)]
      show Q (.bl (decide (i ≤ hi))) _
      rw [e]; exact k
    · have h1' : ¬ lo ≤ i := fun q => h1 (decide_eq_true q)
      have e : decide (lo ≤ i ∧ i ≤ hi) = false := decide_eq_false (fun z => h1' z.1)
      rw [e] at k; exact k

/-! ### Layout -/
theorem scEpoch : FnScope ["self"] ["self"] (defScope sEpoch) := ⟨rfl, rfl, rfl, by decide +kernel, rfl, by decide +kernel, by decide +kernel⟩
def spEpoch : Sp := fun vs H Q _ => ∃ v, vs = [v] ∧ Q (.int 0) H
theorem ok_epoch (T : Txt w K mg) : FnOk P w K mg base CX0 1 T.epoch.f T.epoch.fd ["self"] spEpoch := by
  refine T.epoch.F.ok scEpoch (fun vs H Q E h => ?_) (fun cdv A outer s H vs Q E hr h => ?_)
  · obtain ⟨v, rfl, _⟩ := h
    rfl
  · obtain ⟨v, rfl, k⟩ := h
    exact ⟨_, pss_one (ps_ret pe_int), k⟩
/-- a Layout of 2 threads, 2 words, 6 record cells -/
abbrev LyAt (CL : Addr) (H : Hp) (p : Addr) : Prop := ∃ dl, H p = some (.ins CL dl lf)
theorem lf_t : lf.lookup ("threads" : Str) = some (.int 2) := by decide +kernel
theorem lf_w : lf.lookup ("words" : Str) = some (.int 2) := by decide +kernel
theorem lf_r : lf.lookup ("records" : Str) = some (.int 6) := by decide +kernel
theorem scCallSlot : FnScope ["self", "thread"] ["self", "thread"] (defScope sCallSlot) := ⟨rfl, rfl, rfl, by decide +kernel, rfl, by decide +kernel, by decide +kernel⟩
def spInt1 (CL : Addr) (g : Int → Int) : Sp := fun vs H Q _ => ∃ p i, vs = [.ref p, .int i] ∧ LyAt CL H p ∧ Q (.int (g i)) H
theorem ok_callSlot (T : Txt w K mg) : FnOk P w K mg base CX0 1 T.callSlot.f T.callSlot.fd ["self", "thread"] (spInt1 T.CL fun i => 1 + 2 + i) := by
  refine T.callSlot.F.ok scCallSlot (fun vs H Q E h => ?_) (fun cdv A outer s H vs Q E hr h => ?_)
  · obtain ⟨p, i, rfl, _⟩ := h
    rfl
  · obtain ⟨p, i, rfl, ⟨dl, hl⟩, k⟩ := h
    refine ⟨_, pss_one (ps_ret (pe_op op_add (pe_op op_add pe_int (pe_fld (pv 0) rfl)) (pv 1))), ?_⟩
    exact ⟨_, rfl, p, _, dl, _, _, rfl, hl, T.clL, T.nThreads, lf_t, _, _, rfl, rfl, _, rfl, _, _, rfl, rfl, k⟩
theorem scWord : FnScope ["self", "index"] ["self", "index"] (defScope sWord) := ⟨rfl, rfl, rfl, by decide +kernel, rfl, by decide +kernel, by decide +kernel⟩
theorem ok_word (T : Txt w K mg) : FnOk P w K mg base CX0 1 T.word.f T.word.fd ["self", "index"] (spInt1 T.CL fun i => 1 + 2 * 2 + i) := by
  refine T.word.F.ok scWord (fun vs H Q E h => ?_) (fun cdv A outer s H vs Q E hr h => ?_)
  · obtain ⟨p, i, rfl, _⟩ := h
    rfl
  · obtain ⟨p, i, rfl, ⟨dl, hl⟩, k⟩ := h
    refine ⟨_, pss_one (ps_ret (pe_op op_add (pe_op op_add pe_int (pe_op op_mul pe_int (pe_fld (pv 0) rfl))) (pv 1))), ?_⟩
    exact ⟨_, rfl, p, _, dl, _, _, rfl, hl, T.clL, T.nThreads, lf_t, _, _, rfl, rfl, .inl ⟨by decide, by decide⟩, _, _, rfl, rfl, _, rfl, _, _, rfl, rfl, k⟩
theorem scRecord : FnScope ["self", "index"] ["self", "index"] (defScope sRecord) := ⟨rfl, rfl, rfl, by decide +kernel, rfl, by decide +kernel, by decide +kernel⟩
theorem ok_record (T : Txt w K mg) : FnOk P w K mg base CX0 1 T.record.f T.record.fd ["self", "index"] (spInt1 T.CL fun i => 1 + 2 * 2 + 2 + i) := by
  refine T.record.F.ok scRecord (fun vs H Q E h => ?_) (fun cdv A outer s H vs Q E hr h => ?_)
  · obtain ⟨p, i, rfl, _⟩ := h
    rfl
  · obtain ⟨p, i, rfl, ⟨dl, hl⟩, k⟩ := h
    refine ⟨_, pss_one (ps_ret (pe_op op_add (pe_op op_add (pe_op op_add pe_int (pe_op op_mul pe_int (pe_fld (pv 0) rfl))) (pe_fld (pv 0) rfl)) (pv 1))), ?_⟩
    exact ⟨_, rfl, p, _, dl, _, _, rfl, hl, T.clL, T.nThreads, lf_t, _, _, rfl, rfl, .inl ⟨by decide, by decide⟩, _, _, rfl, rfl, _, rfl, p, _, dl, _, _, rfl, hl, T.clL, T.nWords, lf_w, _, _, rfl, rfl, _, rfl, _, _, rfl, rfl, k⟩
theorem scCells : FnScope ["self"] ["self"] (defScope sCells) := ⟨rfl, rfl, rfl, by decide +kernel, rfl, by decide +kernel, by decide +kernel⟩
def spCells (CL : Addr) : Sp := fun vs H Q _ => ∃ p, vs = [.ref p] ∧ LyAt CL H p ∧ Q (.int 13) H
theorem lf_record : lf.lookup ("record" : Str) = none := by decide +kernel
theorem ok_cells (T : Txt w K mg) : FnOk P w K mg base CX0 2 T.cells.f T.cells.fd ["self"] (spCells T.CL) := by
  have GR : FnOk P w K mg base CX0 1 T.record.f T.record.fd ["self", "index"] _ := ok_record T
  refine T.cells.F.ok scCells (fun vs H Q E h => ?_) (fun cdv A outer s H vs Q E hr h => ?_)
  · obtain ⟨p, rfl, _⟩ := h
    rfl
  · obtain ⟨p, rfl, ⟨dl, hl⟩, k⟩ := h
    refine ⟨_, pss_one (ps_ret (pe_meth (pv 0) T.clL T.record.m GR hr T.record.b .nil pass0 (pa_cons (pe_fld (pv 0) rfl) pa_nil))), ?_⟩
    exact ⟨_, rfl, p, dl, _, rfl, hl, lf_record, _, rfl, p, _, dl, _, _, rfl, hl, T.clL, T.nRecords, lf_r, p, 6, rfl, ⟨dl, hl⟩, k⟩
theorem scIsLasting : FnScope ["self", "cell"] ["self", "cell"] (defScope sIsLasting) := ⟨rfl, rfl, rfl, by decide +kernel, rfl, by decide +kernel, by decide +kernel⟩
def spIsLasting (CL : Addr) : Sp := fun vs H Q _ => ∃ p i, vs = [.ref p, .int i] ∧ LyAt CL H p ∧ Q (.bl (decide (3 ≤ i ∧ i < 13))) H
theorem lf_call_slot : lf.lookup ("call_slot" : Str) = none := by decide +kernel
theorem lf_cells : lf.lookup ("cells" : Str) = none := by decide +kernel
theorem ok_isLasting (T : Txt w K mg) : FnOk P w K mg base CX0 3 T.isLasting.f T.isLasting.fd ["self", "cell"] (spIsLasting T.CL) := by
  have GC : FnOk P w K mg base CX0 1 T.callSlot.f T.callSlot.fd ["self", "thread"] _ := ok_callSlot T
  have GN : FnOk P w K mg base CX0 2 T.cells.f T.cells.fd ["self"] _ := ok_cells T
  refine T.isLasting.F.ok scIsLasting (fun vs H Q E h => ?_) (fun cdv A outer s H vs Q E hr h => ?_)
  · obtain ⟨p, i, rfl, _⟩ := h
    rfl
  · obtain ⟨p, i, rfl, ⟨dl, hl⟩, k⟩ := h
    refine ⟨_, pss_one (ps_ret (pe_chain op_le op_lt (pe_meth (pv 0) T.clL T.callSlot.m GC (hr.mono (by decide)) T.callSlot.b .nil pass0 (pa_cons pe_int pa_nil)) (pv 1)
      (pe_meth0 (pv 0) T.clL T.cells.m GN hr T.cells.b .nil pass0))), ?_⟩
    refine ⟨_, rfl, p, dl, _, rfl, hl, lf_call_slot, p, 0, rfl, ⟨dl, hl⟩, _, rfl, _, _, rfl, rfl, _, rfl, ?_⟩
    refine ite2 (fun h1 => ?_) (fun h1 => ?_)
    · refine ⟨_, rfl, p, dl, _, rfl, hl, lf_cells, p, rfl, ⟨dl, hl⟩, _, _, rfl, rfl, ?_⟩
      have h1' : (3 : Int) ≤ i := of_decide_eq_true h1
      have e : decide (i < 13) = decide (3 ≤ i ∧ i < 13) := by
        by_cases q : i < 13
        · rw [decide_eq_true q, decide_eq_true ⟨h1', q⟩]
        · rw [decide_eq_false q, decide_eq_false (fun z => q z.2)]
      show Q (.bl (decide (i < 13))) _
      rw [e]; exact k
    · have h1' : ¬ (3 : Int) ≤ i := fun q => h1 (decide_eq_true q)
      have e : decide (3 ≤ i ∧ i < 13) = false := decide_eq_false (fun z => h1' z.1)
      rw [e] at k; exact k
end
end DK

/-! Two rules that the layer lacks; the checks. -/
namespace L2
open PySem PySem.Spec PyProof.Rows
section
variable {X : Cx} {C : Addr} {bmB : List Value} {B newId initId : String}
/-- X(), X an own exception class without own __init__ -/
theorem pmk_own0 {x : Str} {p pos : Pos} (F : ExcBaseFacts B newId initId bmB) (q : PySem.W.excIn X.K C bmB newId = true) (gC : X.mg x = some (.ref C)) (kC : PySem.W.keepIn X.K (.ref C) = true) (r : Raises X (.ref C)) (hg : Gl X x)
    (hdb : (x == ("__debug__" : Str)) = false := by decide) : PMk X (.Call (.Name x p) [] [] pos) (fun _ H Q => Q (.ref C) none H) := by
  intro pins s σ H Q I h
  refine wpAny_Call_Name_kw (ld_glob I hg gC ?_ hdb)
  refine PySem.W.callWith_K0 I.kIn kC ?_
  show wpAny _ _ (call (.ref C) []) _ _ _
  obtain ⟨bm, N, nm, qn, bs, hdct, sn, sub, ab, col, dd, k0, k1, k2, k3, k5, mN, hC, hN, hni, T⟩ := exc_obj I.kIn q
  refine wpAny_call_exc_subT F T hC hN hni (fun h' e hm => ?_) (Nat.zero_le _)
  exact mk_of I hm r h (I.hok.gone hm.new)
/-- d.get(y), d a written dict with text keys -/
def tKGet (K : PySem.W.Frag) (d : Addr) (td ty : TE) : TE := fun σ H Q => td σ H fun x H1 => x = .ref d ∧ ty σ H1 fun y H2 => ∃ (z : Str) (r : Option Value) (v : V), y = .str z ∧ PySem.W.nsIn K d z = some r ∧ RelV v (r.getD .none) ∧ Q v H2
theorem pe_kget {o e : Expr} {apos cpos : Pos} {td ty : TE} {d : Addr} {es : Array DictEntry} {n : Nat} (D : KDict X.K X.w d es n) (ho : PE X o td) (he : PE X e ty) (m : M1 X o "get" apos e cpos) :
    PE X (.Call (.Attribute o "get" apos) [e] [] cpos) (tKGet X.K d td ty) := by
  refine ⟨fun pins s σ H Q I h => ?_⟩
  refine wpAny_Call_method m.base m.few m.line PySem.F.plainAttrs_dict PySem.F.slot_dict_get PySem.F.type_dict_get (thn (ho.run pins s σ H _ I h) fun u s1 ⟨x, H1, I1, rx, ex, q1⟩ => ?_)
  subst ex
  obtain rfl : u = Value.ref d := rx
  refine ⟨kd_type D I1, fun b q => ?_, ?_⟩
  · cases q
    exact ⟨_, I1.kIn _ _ D.at_, rfl⟩
  rw [m.trees]
  refine Calls.callWith_builtin rfl (Calls.evalArgs_plain (Calls.spliced_cons (thn (he.run pins s1 σ H1 _ I1 q1) fun iv s2 ⟨y, H2, I2, ry, z, r, v, ey, hr, rv, q2⟩ => Calls.spliced_nil ?_)))
  subst ey
  obtain ⟨t, rfl⟩ := ry
  have mo := PySem.W.mapOf_K (prog := X.prog) (w := X.w) I2.kIn D.at_ D.lit
  refine call_meetsIn PySem.F.slot_dict_get mo.typeIs PySem.F.entry_dict_get (PySem.F.args_dict_get_2 _ _) (meets_dict_get (strKind X.prog X.w) d (PySem.strKind_is X.prog X.w z t) D.low) ⟨_, mo, ?_⟩
  refine ⟨v, H2, I2.tok _, ?_, q2⟩
  rw [PySem.W.find_K D.at_ hr]
  exact rv
end
end L2

namespace DK
open PySem L2
section
variable {P : Program} {w : World} {K : PySem.W.Frag} {mg : Str → Option Value} {base : Heap}
/-! ### a Memory's attributes -/
variable {ly rows tr nt : Addr} {n : Nat}
theorem mf_layout : (mf ly n rows tr nt).lookup ("layout" : Str) = some (.ref ly) := by
  unfold mf
  rfl
theorem ne_lc : (("count" : Str) == "layout") = false := by decide +kernel
theorem mf_count : (mf ly n rows tr nt).lookup ("count" : Str) = some (.int n) := by
  unfold mf
  rw [List.lookup_cons, show (("count" : Str) == "layout") = false by decide +kernel]
  rfl
theorem mf_rows : (mf ly n rows tr nt).lookup ("rows" : Str) = some (.ref rows) := by
  unfold mf
  rw [List.lookup_cons, show (("rows" : Str) == "layout") = false by decide +kernel]
  dsimp only
  rw [List.lookup_cons, show (("rows" : Str) == "count") = false by decide +kernel]
  rfl
theorem mf_trails : (mf ly n rows tr nt).lookup ("trails" : Str) = some (.ref tr) := by
  unfold mf
  rw [List.lookup_cons, show (("trails" : Str) == "layout") = false by decide +kernel]
  dsimp only
  rw [List.lookup_cons, show (("trails" : Str) == "count") = false by decide +kernel]
  dsimp only
  rw [List.lookup_cons, show (("trails" : Str) == "rows") = false by decide +kernel]
  rfl
theorem mf_notes : (mf ly n rows tr nt).lookup ("notes" : Str) = some (.ref nt) := by
  unfold mf
  rw [List.lookup_cons, show (("notes" : Str) == "layout") = false by decide +kernel]
  dsimp only
  rw [List.lookup_cons, show (("notes" : Str) == "count") = false by decide +kernel]
  dsimp only
  rw [List.lookup_cons, show (("notes" : Str) == "rows") = false by decide +kernel]
  dsimp only
  rw [List.lookup_cons, show (("notes" : Str) == "trails") = false by decide +kernel]
  rfl
/-- not an attribute -/
def noMf (x : Str) : Bool := !(x == "layout") && !(x == "count") && !(x == "rows") && !(x == "trails") && !(x == "notes")
theorem mf_no {x : Str} (h : noMf x = true) : (mf ly n rows tr nt).lookup x = none := by
  unfold noMf at h
  simp only [Bool.and_eq_true, Bool.not_eq_true'] at h
  obtain ⟨⟨⟨⟨h1, h2⟩, h3⟩, h4⟩, h5⟩ := h
  unfold mf
  simp only [List.lookup_cons, h1, h2, h3, h4, h5, List.lookup_nil]

/-! ### raise NotValid() -/
theorem rs_nv (T : Txt w K mg) {X : Cx} (hK : X.K = K) : Raises X (.ref T.NV) := by
  subst hK
  exact raises_own T.nv.sb T.nv.ty

/-! ### check_cell -/
theorem scCheckCell : FnScope ["self", "cell"] ["self", "cell"] (defScope sCheckCell) := ⟨rfl, rfl, rfl, by decide +kernel, rfl, by decide +kernel, by decide +kernel⟩
/-- a promise of a check: ok says how it goes -/
def spCheck (CM CL NV : Addr) (rest : Hp → List V → Bool → Prop) : Sp := fun vs H Q E => ∃ (m : MA) (s : MS) (n : Nat) (us : List V) (ok : Bool), vs = .ref m.p :: us ∧ MemAt CM CL H m s n ∧ s.tr.length = 13 ∧ rest H us ok ∧
  (ok = true → Q .non H) ∧ (ok = false → E (.ref NV) none H)
def rCell : Hp → List V → Bool → Prop := fun _ us ok => ∃ c : Int, us = [.int c] ∧ ok = decide (0 ≤ c ∧ c < 13)
def rLasting : Hp → List V → Bool → Prop := fun _ us ok => ∃ c : Int, us = [.int c] ∧ ok = decide (3 ≤ c ∧ c < 13)
theorem ok_checkCell (T : Txt w K mg) : FnOk P w K mg base (L2.CX P w) 2 T.checkCell.f T.checkCell.fd ["self", "cell"] (spCheck T.CM T.CL T.NV rCell) := by
  have GW : FnOk P w K mg base CX0 1 T.within.f T.within.fd ["value", "low", "high"] spWithin := ok_within T
  refine T.checkCell.F.okX scCheckCell (fun vs H Q E h => ?_) (fun cdv A outer s H vs Q E hr h => ?_)
  · obtain ⟨m, s, n, us, ok, rfl, _, _, ⟨c, rfl, _⟩, _⟩ := h
    rfl
  · obtain ⟨m, st, n, us, ok, rfl, M, h13, ⟨c, rfl, rfl⟩, k1, k2⟩ := h
    refine ⟨_, pss_one (ps_if (pt_not (pt_val (pe_call GW hr rfl T.within.g T.within.F.kp T.within.b .nil pass0 (pa_cons (pv 1) (pa_cons pe_int (pa_cons (pe_op op_sub
        (pe_callB call_len_seq (by rfl) T.bLen PySem.boot_len (pa_cons (pe_fld (pv 0) rfl) pa_nil)) pe_int) pa_nil))))))
      (pss_one (ps_raise rfl (takes_of rfl rfl rfl rfl) (pmk_own0 PySem.F.excBase_ValueError T.nv.ex T.gNV T.nv.kp (rs_nv T rfl) rfl))) pss_nil), ?_⟩
    refine ⟨_, rfl, _, rfl, m.p, _, m.dx, _, _, rfl, M.hp, T.clM, T.nTrails, mf_trails, _, _, rfl, .inl (SqL.of M.co.htr), _, _, rfl, rfl, _, _, _, rfl, _, rfl, ?_⟩
    have el : (((m.co.ms.map V.ref).length : Nat) : Int) - 1 = 12 := by rw [List.length_map, M.co.lm, h13]; rfl
    rw [el]
    have ee : decide (0 ≤ c ∧ c ≤ 12) = decide (0 ≤ c ∧ c < 13) := by
      apply decide_eq_decide.mpr
      constructor <;> (rintro ⟨a, b⟩; exact ⟨a, by omega⟩)
    rw [ee]
    cases e : decide (0 ≤ c ∧ c < 13) with
    | true => exact iteF (k1 e)
    | false => exact iteT (k2 e)
/-! ### check_lasting -/
theorem scCheckLasting : FnScope ["self", "cell"] ["self", "cell"] (defScope sCheckLasting) := ⟨rfl, rfl, rfl, by decide +kernel, rfl, by decide +kernel, by decide +kernel⟩
theorem ok_checkLasting (T : Txt w K mg) : FnOk P w K mg base (L2.CX P w) 4 T.checkLasting.f T.checkLasting.fd ["self", "cell"] (spCheck T.CM T.CL T.NV rLasting) := by
  have GC : FnOk P w K mg base (L2.CX P w) 2 T.checkCell.f T.checkCell.fd ["self", "cell"] _ := ok_checkCell T
  have GL : FnOk P w K mg base CX0 3 T.isLasting.f T.isLasting.fd ["self", "cell"] _ := ok_isLasting T
  refine T.checkLasting.F.okX scCheckLasting (fun vs H Q E h => ?_) (fun cdv A outer s H vs Q E hr h => ?_)
  · obtain ⟨m, s, n, us, ok, rfl, _, _, ⟨c, rfl, _⟩, _⟩ := h
    rfl
  · obtain ⟨m, st, n, us, ok, rfl, M, h13, ⟨c, rfl, rfl⟩, k1, k2⟩ := h
    refine ⟨_, pss_cons (ps_expr (pe_meth (pv 0) T.clM T.checkCell.m GC (hr.mono (by decide)) T.checkCell.b .nil (passes_call (E := E) (takes_of rfl rfl rfl rfl) fun _ _ _ _ h => h) (pa_cons (pv 1) pa_nil)))
      (pss_one (ps_if (pt_not (pt_val (pe_meth (pe_fld (pv 0) rfl) T.clL T.isLasting.m GL hr T.isLasting.b .nil pass0 (pa_cons (pv 1) pa_nil))))
        (pss_one (ps_raise rfl (takes_of rfl rfl rfl rfl) (pmk_own0 PySem.F.excBase_ValueError T.nv.ex T.gNV T.nv.kp (rs_nv T rfl) rfl))) pss_nil)), ?_⟩
    refine ⟨_, rfl, m.p, m.dx, _, rfl, M.hp, mf_no (by decide +kernel), _, rfl, m, st, n, [.int c], decide (0 ≤ c ∧ c < 13), rfl, M, h13, ⟨c, rfl, rfl⟩, fun h1 => ?_, fun h1 => ?_⟩
    · refine ⟨_, rfl, m.p, _, m.dx, _, _, rfl, M.hp, T.clM, T.nLayout, mf_layout, m.ly, m.dl, _, rfl, M.hly, (by decide +kernel), _, rfl, m.ly, c, rfl, ⟨m.dl, M.hly⟩, _, rfl, ?_⟩
      cases e : decide (3 ≤ c ∧ c < 13) with
      | true => exact iteF (k1 e)
      | false => exact iteT (k2 e)
    · refine k2 (decide_eq_false fun z => ?_)
      have := of_decide_eq_false h1
      exact this ⟨by omega, z.2⟩
/-! ### check_request -/
theorem scCheckRequest : FnScope ["self", "thread", "request"] ["self", "thread", "request"] (defScope sCheckRequest) := ⟨rfl, rfl, rfl, by decide +kernel, rfl, by decide +kernel, by decide +kernel⟩
/-- which requests are good -/
inductive Chk : Int → List V → Bool → Prop
  | thread {t : Int} {xs : List V} : ¬ (0 ≤ t ∧ t ≤ 1) → Chk t xs false
  | empty {t : Int} : 0 ≤ t ∧ t ≤ 1 → Chk t [] false
  | len {t : Int} {k : Str} {v : V} {rest : List V} : 0 ≤ t ∧ t ≤ 1 → LTab k v → v ≠ .int ((rest.length + 1 : Nat) : Int) → Chk t (.str k :: rest) false
  | flush {t c : Int} : 0 ≤ t ∧ t ≤ 1 → Chk t [.str "flush", .int c] (decide (3 ≤ c ∧ c < 13))
  | fence {t : Int} : 0 ≤ t ∧ t ≤ 1 → Chk t [.str "fence"] true
  | cell {t c : Int} {k : Str} {rest : List V} : 0 ≤ t ∧ t ≤ 1 → LTab k (.int ((rest.length + 2 : Nat) : Int)) → k ≠ "flush" → k ≠ "fence" → Chk t (.str k :: .int c :: rest) (decide (0 ≤ c ∧ c < 13))
def rRequest : Hp → List V → Bool → Prop := fun H us ok => ∃ (t : Int) (r : Addr) (xs : List V), us = [.int t, .ref r] ∧ H r = some (.tup xs) ∧ Chk t xs ok
theorem kit_tt {K : PySem.W.Frag} : PySem.W.kitOne K (.type "tuple") (.type "tuple") = some true := kit_ty (by decide +kernel)
theorem ltab_scal {k : Str} {v : V} (h : LTab k v) (i : Int) : scal v (.int i) = true := by cases h <;> rfl
theorem ok_checkRequest (T : Txt w K mg) : FnOk P w K mg base (L2.CX P w) 5 T.checkRequest.f T.checkRequest.fd ["self", "thread", "request"] (spCheck T.CM T.CL T.NV rRequest) := by
  have GW : FnOk P w K mg base CX0 1 T.within.f T.within.fd ["value", "low", "high"] spWithin := ok_within T
  have GC : FnOk P w K mg base (L2.CX P w) 2 T.checkCell.f T.checkCell.fd ["self", "cell"] _ := ok_checkCell T
  have GL : FnOk P w K mg base (L2.CX P w) 4 T.checkLasting.f T.checkLasting.fd ["self", "cell"] _ := ok_checkLasting T
  obtain ⟨es, nn, DL⟩ := T.lens
  refine T.checkRequest.F.okX scCheckRequest (fun vs H Q E h => ?_) (fun cdv A outer s H vs Q E hr h => ?_)
  · obtain ⟨m, s, n, us, ok, rfl, _, _, ⟨t, r, xs, rfl, _⟩, _⟩ := h
    rfl
  · obtain ⟨m, st, n, us, ok, rfl, M, h13, ⟨t, r, xs, rfl, hx, hc⟩, k1, k2⟩ := h
    refine ⟨_, pss_cons (ps_if (PW.pt (pw_or (pt_not (pt_val (pe_call GW (hr.mono (by decide)) rfl T.within.g T.within.F.kp T.within.b .nil pass0 (pa_cons (pv 1) (pa_cons pe_int (pa_cons (pe_op op_sub
          (pe_fld (pe_fld (pv 0) rfl) rfl) pe_int) pa_nil))))))
        (pw_or (pt_not (pt_val (pe_callB call_isi (by rfl) T.bIsinstance boot_isi (pa_cons (pv 2) (pa_cons (pe_bltn (v := .ty "tuple") (by rfl) T.bTuple boot_tuple' rfl) pa_nil)))))
          (pw_or1 (pt_cmpR op_eq (pe_callB call_len_seq (by rfl) T.bLen PySem.boot_len (pa_cons (pv 2) pa_nil)) pe_int (nomark _))))))
        (pss_one (ps_raise rfl (takes_of rfl rfl rfl rfl) (pmk_own0 PySem.F.excBase_ValueError T.nv.ex T.gNV T.nv.kp (rs_nv T rfl) rfl))) pss_nil)
      (pss_cons (ps_if (pt_cmpR op_ne (pe_kget DL (pe_glob (v := .ref T.LD) rfl T.gLD rfl) (pe_ix ix_tup (pv 2) pe_int (fun _ _ => rfl)) ⟨rfl, rfl, rfl, rfl⟩) (pe_callB call_len_seq (by rfl) T.bLen PySem.boot_len (pa_cons (pv 2) pa_nil)) (nomark _))
        (pss_one (ps_raise rfl (takes_of rfl rfl rfl rfl) (pmk_own0 PySem.F.excBase_ValueError T.nv.ex T.gNV T.nv.kp (rs_nv T rfl) rfl))) pss_nil)
      (pss_one (ps_if (pt_cmpR op_eq (pe_ix ix_tup (pv 2) pe_int (fun _ _ => rfl)) pe_str (nomark _))
        (pss_one (ps_expr (pe_meth (pv 0) T.clM T.checkLasting.m GL (hr.mono (by decide)) T.checkLasting.b .nil (passes_call (E := E) (takes_of rfl rfl rfl rfl) fun _ _ _ _ h => h) (pa_cons (pe_ix ix_tup (pv 2) pe_int (fun _ _ => rfl)) pa_nil))))
        (pss_one (ps_if (pt_cmpR op_ne (pe_ix ix_tup (pv 2) pe_int (fun _ _ => rfl)) pe_str (nomark _))
          (pss_one (ps_expr (pe_meth (pv 0) T.clM T.checkCell.m GC (hr.mono (by decide)) T.checkCell.b .nil (passes_call (E := E) (takes_of rfl rfl rfl rfl) fun _ _ _ _ h => h) (pa_cons (pe_ix ix_tup (pv 2) pe_int (fun _ _ => rfl)) pa_nil))))
          pss_nil))))), ?_⟩
    refine ⟨_, rfl, _, rfl, m.p, _, m.dx, _, _, rfl, M.hp, T.clM, T.nLayout, mf_layout, m.ly, _, m.dl, _, _, rfl, M.hly, T.clL, T.nThreads, lf_t, _, _, rfl, rfl, _, _, _, rfl, _, rfl, ?_⟩
    have e1 : (2 : Int) - 1 = 1 := rfl
    rw [e1]
    by_cases ht : 0 ≤ t ∧ t ≤ 1
    · rw [decide_eq_true ht]
      refine iteF ?_
      refine ⟨_, rfl, _, _, _, _, true, rfl, .ty "tuple", .base (.tup hx), kit_tt, _, rfl, iteF ?_⟩
      refine ⟨_, rfl, _, _, rfl, .inr (SqT.of hx), rfl, _, rfl, ?_⟩
      cases hc with
      | thread hn => exact absurd ht hn
      | empty _ =>
        refine ite2 (fun _ => ?_) (fun z => absurd (show decide (V.int ((([] : List V).length : Nat) : Int) = V.int 0) = true from by decide +kernel) z)
        exact k2 rfl
      | @len k v rest _ hl hv =>
        obtain ⟨rv, en, er⟩ := T.lenAt k v hl
        have e0 : decide (V.int (((V.str k :: rest).length : Nat) : Int) = V.int 0) = false := decide_eq_false fun z => by
          have := V.int.inj z
          simp only [List.length_cons] at this; omega
        rw [e0]
        refine iteF ?_
        refine ⟨rfl, _, rfl, r, _, _, _, rfl, rfl, SqT.of hx, atI_nat (j := 0) rfl, k, rv, v, rfl, en, er, _, rfl, _, _, rfl, .inr (SqT.of hx), ltab_scal hl _, _, rfl, ?_⟩
        have e2 : decide (v = V.int (((V.str k :: rest).length : Nat) : Int)) = false := decide_eq_false hv
        rw [e2]
        exact iteT (k2 rfl)
      | @flush c _ =>
        obtain ⟨rv, en, er⟩ := T.lenAt _ _ LTab.flush
        rw [show decide (V.int ((([V.str "flush", V.int c] : List V).length : Nat) : Int) = V.int 0) = false from decide_eq_false fun z => by have := V.int.inj z; simp at this]
        refine iteF ?_
        refine ⟨rfl, _, rfl, r, _, _, _, rfl, rfl, SqT.of hx, atI_nat (j := 0) rfl, _, rv, _, rfl, en, er, _, rfl, _, _, rfl, .inr (SqT.of hx), rfl, _, rfl, iteF ?_⟩
        refine ⟨_, rfl, r, _, _, _, rfl, rfl, SqT.of hx, atI_nat (j := 0) rfl, rfl, _, rfl, iteT ?_⟩
        refine ⟨_, rfl, m.p, m.dx, _, rfl, M.hp, mf_no (by decide +kernel), _, rfl, r, _, _, _, rfl, rfl, SqT.of hx, atI_nat (j := 1) rfl, m, st, n, _, _, rfl, M, h13, ⟨c, rfl, rfl⟩, k1, k2⟩
      | fence _ =>
        obtain ⟨rv, en, er⟩ := T.lenAt _ _ LTab.fence
        rw [show decide (V.int ((([V.str "fence"] : List V).length : Nat) : Int) = V.int 0) = false from decide_eq_false fun z => by have := V.int.inj z; simp at this]
        refine iteF ?_
        refine ⟨rfl, _, rfl, r, _, _, _, rfl, rfl, SqT.of hx, atI_nat (j := 0) rfl, _, rv, _, rfl, en, er, _, rfl, _, _, rfl, .inr (SqT.of hx), rfl, _, rfl, iteF ?_⟩
        refine ⟨_, rfl, r, _, _, _, rfl, rfl, SqT.of hx, atI_nat (j := 0) rfl, rfl, _, rfl, ?_⟩
        rw [show decide (V.str ("fence" : Str) = V.str "flush") = false by decide +kernel]
        refine iteF ?_
        refine ⟨_, rfl, r, _, _, _, rfl, rfl, SqT.of hx, atI_nat (j := 0) rfl, rfl, _, rfl, ?_⟩
        rw [show decide (V.str ("fence" : Str) = V.str "fence") = true by decide +kernel]
        exact iteF (k1 rfl)
      | @cell c k rest _ hl n1 n2 =>
        obtain ⟨rv, en, er⟩ := T.lenAt _ _ hl
        have e0 : decide (V.int (((V.str k :: V.int c :: rest).length : Nat) : Int) = V.int 0) = false := decide_eq_false fun z => by
          have := V.int.inj z
          simp only [List.length_cons] at this; omega
        rw [e0]
        refine iteF ?_
        refine ⟨rfl, _, rfl, r, _, _, _, rfl, rfl, SqT.of hx, atI_nat (j := 0) rfl, _, rv, _, rfl, en, er, _, rfl, _, _, rfl, .inr (SqT.of hx), rfl, _, rfl, ?_⟩
        have e2 : decide (V.int ((rest.length + 2 : Nat) : Int) = V.int (((V.str k :: V.int c :: rest).length : Nat) : Int)) = true := decide_eq_true rfl
        rw [e2]
        refine iteF ?_
        refine ⟨_, rfl, r, _, _, _, rfl, rfl, SqT.of hx, atI_nat (j := 0) rfl, rfl, _, rfl, ?_⟩
        rw [show decide (V.str k = V.str "flush") = false from decide_eq_false fun z => n1 (V.str.inj z)]
        refine iteF ?_
        refine ⟨_, rfl, r, _, _, _, rfl, rfl, SqT.of hx, atI_nat (j := 0) rfl, rfl, _, rfl, ?_⟩
        rw [show decide (V.str k = V.str "fence") = false from decide_eq_false fun z => n2 (V.str.inj z)]
        refine iteT ?_
        refine ⟨_, rfl, m.p, m.dx, _, rfl, M.hp, mf_no (by decide +kernel), _, rfl, r, _, _, _, rfl, rfl, SqT.of hx, atI_nat (j := 1) rfl, m, st, n, _, _, rfl, M, h13, ⟨c, rfl, rfl⟩, k1, k2⟩
    · rw [decide_eq_false ht]
      have : ok = false := by
        cases hc with
        | thread _ => rfl
        | empty z => exact absurd z ht
        | len z _ _ => exact absurd z ht
        | flush z => exact absurd z ht
        | fence z => exact absurd z ht
        | cell z _ _ _ => exact absurd z ht
      refine iteT ?_
      exact k2 this
end
end DK

/-! give, shorten, fence of a Memory. -/
namespace DK
open PySem L2
theorem ixN_nat {n c : Nat} (h : c < n) : ixN n (c : Int) = some c := by
  unfold ixN
  rw [if_pos (by omega), if_pos (by omega), Int.toNat_natCast]
theorem cut_drop {xs : List V} {k : Nat} (h : k ≤ xs.length) : cutV xs (some (k : Int)) none = xs.drop k := by
  unfold cutV
  rw [HT.sIx_nat, HT.sIx_none, Nat.min_eq_left h]
  apply List.take_of_length_le
  rw [List.length_drop]; exact Nat.le_refl _
theorem cut_take {xs : List V} {k : Nat} (h : k ≤ xs.length) : cutV xs none (some (k : Int)) = xs.take k := by
  unfold cutV
  rw [HT.sIx_nat, HT.sIx_none, Nat.min_eq_left h, List.drop_zero, Nat.sub_zero]
/-- the first i items turned -/
def mapI {α : Type} (f : α → α) (l : List α) (i : Nat) : List α := (l.take i).map f ++ l.drop i
theorem mapI_zero {α : Type} (f : α → α) (l : List α) : mapI f l 0 = l := by simp [mapI]
theorem mapI_all {α : Type} (f : α → α) (l : List α) : mapI f l l.length = l.map f := by simp [mapI]
theorem mapI_length {α : Type} (f : α → α) (l : List α) (i : Nat) : (mapI f l i).length = l.length := by
  unfold mapI
  rw [List.length_append, List.length_map, List.length_take, List.length_drop]; omega
theorem mapI_getD {α : Type} (f : α → α) {l : List α} {i : Nat} {d : α} (h : i < l.length) : (mapI f l i).getD i d = l.getD i d := by
  unfold mapI
  rw [List.getD_eq_getElem?_getD, List.getD_eq_getElem?_getD, List.getElem?_append_right (by rw [List.length_map, List.length_take]; omega), List.length_map, List.length_take, Nat.min_eq_left (by omega), List.getElem?_drop]
  congr 2; omega
theorem mapI_succ {α : Type} (f : α → α) {l : List α} {i : Nat} {d : α} (h : i < l.length) : (mapI f l i).set i (f (l.getD i d)) = mapI f l (i + 1) := by
  unfold mapI
  have hd : l.drop i = l.getD i d :: l.drop (i + 1) := by
    rw [List.drop_eq_getElem_cons h]
    congr 1
    rw [List.getD_eq_getElem?_getD, List.getElem?_eq_getElem h]; rfl
  have ht : l.take (i + 1) = l.take i ++ [l.getD i d] := by
    rw [List.take_succ, List.getElem?_eq_getElem h, List.getD_eq_getElem?_getD, List.getElem?_eq_getElem h]; rfl
  rw [List.set_append_right _ _ (by rw [List.length_map, List.length_take]; omega), List.length_map, List.length_take, Nat.min_eq_left (by omega), Nat.sub_self, hd, ht]
  simp
theorem kv_length (l : NL) : (kv l).length = l.length := by unfold kv; rw [List.length_map]
theorem le_line {n : Nat} (h : n ≤ 16777216) : n ≤ sizeLine := by rw [sizeLine_eq]; exact h
theorem lt_line {n : Nat} (h : n < 16777216) : n < sizeLine := by rw [sizeLine_eq]; exact h
section
variable {P : Program} {w : World} {K : PySem.W.Frag} {mg : Str → Option Value} {base : Heap}
/-- what a method of a Memory leaves -/
def After (CM CL : Addr) (H : Hp) (m : MA) (s' : MS) (n' : Nat) (H' : Hp) : Prop := ∃ m' : MA, m'.p = m.p ∧ MemAt CM CL H' m' s' n' ∧ Step H m.fp H' m'.fp
/-! ### give -/
theorem scGive : FnScope ["self", "cell", "value"] ["self", "cell", "value"] (defScope sGive) := ⟨rfl, rfl, rfl, by decide +kernel, rfl, by decide +kernel, by decide +kernel⟩
def spGive (CM CL : Addr) : Sp := fun vs H Q _ => ∃ (m : MA) (s : MS) (n c : Nat) (v : V) (d : PyData), vs = [.ref m.p, .int (c : Int), v] ∧ MemAt CM CL H m s n ∧ WF s 1000 ∧ c < 13 ∧ Dt H v d ∧
  ∀ H', After CM CL H m (give s c d) n H' → Q .non H'
theorem ok_give (T : Txt w K mg) : FnOk P w K mg base CX0 4 T.give.f T.give.fd ["self", "cell", "value"] (spGive T.CM T.CL) := by
  have GL : FnOk P w K mg base CX0 3 T.isLasting.f T.isLasting.fd ["self", "cell"] _ := ok_isLasting T
  refine T.give.F.ok scGive (fun vs H Q E h => ?_) (fun cdv A outer s H vs Q E hr h => ?_)
  · obtain ⟨m, s, n, c, v, d, rfl, _⟩ := h
    rfl
  · obtain ⟨m, st, n, c, v, d, rfl, M, W, hc, hd, k⟩ := h
    refine ⟨_, pss_one (ps_if (pt_val (pe_meth (pe_fld (pv 0) rfl) T.clL T.isLasting.m GL hr T.isLasting.b .nil pass0 (pa_cons (pv 1) pa_nil)))
      (pss_one (ps_expr (pe_bm PySem.F.plainAttrs_list PySem.F.slot_list_append PySem.F.type_list_append mt_append (pe_ix ix_list (pe_fld (pv 0) rfl) (pv 1) (fun _ _ => rfl)) (pa_cons (pv 2) pa_nil))))
      (pss_one (ps_asg (pe_lst (pa_cons (pv 2) pa_nil)) (pg_sub (pe_fld (pv 0) rfl) (pv 1) set_list)))), ?_⟩
    refine ⟨_, rfl, m.p, _, m.dx, _, _, rfl, M.hp, T.clM, T.nLayout, mf_layout, m.ly, m.dl, _, rfl, M.hly, (by decide +kernel), _, rfl, m.ly, c, rfl, ⟨m.dl, M.hly⟩, _, rfl, ?_⟩
    have hi : c < st.tr.length := by rw [W.tl]; exact hc
    obtain ⟨a, ha, _, xs, hx, dx⟩ := M.co.ms_at hi
    have hlen : xs.length ≤ 1001 := by rw [dx.length]; exact W.le _ (W.at_mem hc)
    by_cases h3 : 3 ≤ c
    · rw [decide_eq_true (show (3 : Int) ≤ (c : Int) ∧ (c : Int) < 13 from ⟨by omega, by omega⟩)]
      refine iteT ?_
      have C' := M.co.app ha (dx.append (DtAll.one hd))
      have e : ({ st with tr := st.tr.set c (st.tr.getD c [] ++ [d]) } : MS) = DK.give st c d := by
        unfold DK.give; rw [if_neg (by omega)]
      obtain ⟨M', S'⟩ := M.inner C'.1 C'.2 rfl rfl
      rw [e] at M'
      refine ⟨_, rfl, m.p, _, m.dx, _, _, rfl, M.hp, T.clM, T.nTrails, mf_trails, _, rfl, m.co.tr, _, _, .ref a, rfl, rfl, SqL.of M.co.htr, atI_nat (ref_at ha), .inl ⟨rfl, _, SqL.of hx⟩, _, rfl, a, _, _, rfl, rfl, hx, lt_line (by omega), ?_⟩
      exact k _ ⟨_, rfl, M', S'⟩
    · rw [decide_eq_false (show ¬ ((3 : Int) ≤ (c : Int) ∧ (c : Int) < 13) from fun z => h3 (by omega))]
      refine iteF ?_
      refine ⟨_, rfl, le_line (by simp), fun p hp => ?_⟩
      have np : m.p ≠ p := ne_of_none M.hp hp
      have C' := M.co.setNew (xs := [v]) (ds := [d]) hi hp (DtAll.one hd)
      have e : ({ st with tr := st.tr.set c [d] } : MS) = DK.give st c d := by
        unfold DK.give; rw [if_pos (by omega)]
      obtain ⟨M', S'⟩ := M.inner C'.1 C'.2 rfl rfl
      rw [e] at M'
      refine ⟨_, rfl, m.p, _, m.dx, _, _, rfl, (by rw [upd_ne np]; exact M.hp), T.clM, T.nTrails, mf_trails, _, rfl, m.co.tr, _, _, c, rfl, rfl, (by rw [upd_ne (ne_of_none M.co.htr hp)]; exact M.co.htr), ixN_nat (by rw [List.length_map, M.co.lm]; exact hi), ?_⟩
      exact k _ ⟨{ m with co := { m.co with ms := m.co.ms.set c p } }, rfl, M', S'⟩
/-! ### shorten -/
theorem scShorten : FnScope ["self", "cell", "steps", "places"] ["self", "cell", "steps"] (defScope sShorten) := ⟨rfl, rfl, rfl, by decide +kernel, rfl, by decide +kernel, by decide +kernel⟩
def spShorten (CM CL : Addr) : Sp := fun vs H Q _ => ∃ (m : MA) (s : MS) (n c k : Nat), vs = [.ref m.p, .int (c : Int), .int (k : Int)] ∧ MemAt CM CL H m s n ∧ WF s 1000 ∧ c < 13 ∧
  ∀ H', After CM CL H m (shorten s c k) n H' → Q .non H'
theorem clamp_eq {k L : Nat} (h : 0 < L) : (if (if ((L : Int) - 1) < (k : Int) then ((L : Int) - 1) else (k : Int)) > 0 then (if ((L : Int) - 1) < (k : Int) then ((L : Int) - 1) else (k : Int)) else 0) = ((min k (L - 1) : Nat) : Int) := by
  split <;> split <;> omega
theorem note_eq {a k : Nat} : (if ((a : Int) - (k : Int)) > 0 then ((a : Int) - (k : Int)) else 0) = ((a - k : Nat) : Int) := by
  split <;> omega
theorem ok_shorten (T : Txt w K mg) : FnOk P w K mg base CX0 1 T.shorten.f T.shorten.fd ["self", "cell", "steps"] (spShorten T.CM T.CL) := by
  refine T.shorten.F.ok scShorten (fun vs H Q E h => ?_) (fun cdv A outer s H vs Q E hr h => ?_)
  · obtain ⟨m, s, n, c, k, rfl, _⟩ := h
    rfl
  · obtain ⟨m, st, n, c, k, rfl, M, W, hc, kk⟩ := h
    have hu := hu_of hr
    refine ⟨_, pss_cons (ps_set (i := 2) scShorten.nd rfl (Or.inl rfl) (pe_callB (call_max2 rfl) (by rfl) T.bMax boot_max' (pa_cons pe_int (pa_cons (pe_callB (call_min2 rfl) (by rfl) T.bMin boot_min' (pa_cons (pv 2)
        (pa_cons (pe_op op_sub (pe_callB call_len_seq (by rfl) T.bLen PySem.boot_len (pa_cons (pe_ix ix_list (pe_fld (pv 0) rfl) (pv 1) (fun _ _ => rfl)) pa_nil)) pe_int) pa_nil))) pa_nil))))
      (pss_cons (ps_asg (pe_slice sl_list (pe_ix ix_list (pe_fld (pv 0) rfl) (pv 1) (fun _ _ => rfl)) (po_some (pv 2)) po_none) (pg_sub (pe_fld (pv 0) rfl) (pv 1) set_list))
      (pss_one (ps_for PassesOwn.never rfl (pi_list (pe_fld (pv 0) rfl)) (pg_name (i := 3) scShorten.nd rfl (Or.inl rfl))
        (pss_one (ps_if (pt_cmp (pc_din hu (pv 1) (pv 3)))
          (pss_one (ps_dput hu (pv 3) (pv 1) (pe_callB (call_max2 rfl) (by rfl) T.bMax boot_max' (pa_cons pe_int (pa_cons (pe_op op_sub (pe_dget hu (pv 3) (pv 1) (fun _ _ => rfl)) (pv 2)) pa_nil))) rfl))
          pss_nil))))), ?_⟩
    have hi : c < st.tr.length := by rw [W.tl]; exact hc
    obtain ⟨a, ha, _, xs, hx, dx⟩ := M.co.ms_at hi
    have hne : 0 < (st.tr.getD c []).length := List.length_pos_iff.mpr (W.ne _ (W.at_mem hc))
    refine ⟨_, rfl, _, rfl, m.p, _, m.dx, _, _, rfl, M.hp, T.clM, T.nTrails, mf_trails, _, rfl, m.co.tr, _, _, .ref a, rfl, rfl, SqL.of M.co.htr, atI_nat (ref_at ha), a, _, rfl, .inl (SqL.of hx), _, _, rfl, rfl, _, _, rfl, _, _, rfl, ?_⟩
    have ek : (if (if (((xs.length : Nat) : Int) - 1) < (k : Int) then (((xs.length : Nat) : Int) - 1) else (k : Int)) > 0 then (if (((xs.length : Nat) : Int) - 1) < (k : Int) then (((xs.length : Nat) : Int) - 1) else (k : Int)) else 0) = ((shBy st c k : Nat) : Int) := by
      rw [dx.length]; exact clamp_eq hne
    rw [ek]
    have hsh : shBy st c k ≤ xs.length := by rw [dx.length]; unfold shBy; omega
    -- the trail is cut
    refine ⟨_, rfl, m.p, _, m.dx, _, _, rfl, M.hp, T.clM, T.nTrails, mf_trails, _, rfl, m.co.tr, _, _, .ref a, rfl, rfl, SqL.of M.co.htr, atI_nat (ref_at ha), _, rfl, _, rfl, a, _, rfl, SqL.of hx, fun p hp => ?_⟩
    rw [cut_drop hsh]
    have np : m.p ≠ p := ne_of_none M.hp hp
    obtain ⟨C1, S1⟩ := M.co.setNew (xs := xs.drop (shBy st c k)) (ds := (st.tr.getD c []).drop (shBy st c k)) hi hp (dx.drop _)
    obtain ⟨M1, S1⟩ := M.inner C1 S1 rfl rfl
    refine ⟨_, rfl, m.p, _, m.dx, _, _, rfl, (by rw [upd_ne np]; exact M.hp), T.clM, T.nTrails, mf_trails, _, rfl, m.co.tr, _, _, c, rfl, rfl, (by rw [upd_ne (ne_of_none M.co.htr hp)]; exact M.co.htr), ixN_nat (by rw [List.length_map, M.co.lm]; exact hi), ?_⟩
    -- the notes are moved
    generalize hH1 : upd (upd H p (.lst (xs.drop (shBy st c k)))) m.co.tr (.lst ((m.co.ms.map V.ref).set c (.ref p))) = H1 at M1 S1 ⊢
    have M1' := M1
    refine ⟨_, rfl, m.p, _, m.dx, _, _, rfl, M1.hp, T.clM, T.nNotes, mf_notes, _, rfl, ⟨_, SqL.of M1.co.hnt⟩, for_list (K := K) (a := m.co.nt) (xs := m.co.ns.map V.ref)
      (fun i σ H' => ∃ v : Option V, σ = [some (.ref m.p), some (.int (c : Int)), some (.int ((shBy st c k : Nat) : Int)), v] ∧
        MemAt T.CM T.CL H' { m with co := { m.co with ms := m.co.ms.set c p } } { tr := st.tr.set c ((st.tr.getD c []).drop (shBy st c k)), nt := mapI (shN c (shBy st c k)) st.nt i } n ∧
        Step H1 ({ m with co := { m.co with ms := m.co.ms.set c p } } : MA).fp H' ({ m with co := { m.co with ms := m.co.ms.set c p } } : MA).fp)
      ⟨none, rfl, by rw [mapI_zero]; exact M1, Step.refl _ _⟩ (fun i σ H' _ ⟨_, _, M', _⟩ => SqL.of M'.co.hnt) ?_ ?_⟩
    · rintro i x σ H' hxi ⟨v, rfl, M', S'⟩
      obtain ⟨b, hb, rfl⟩ : ∃ b, m.co.ns[i]? = some b ∧ x = V.ref b := by
        rw [List.getElem?_map] at hxi
        cases e : m.co.ns[i]? with
        | none => rw [e] at hxi; cases hxi
        | some b => rw [e] at hxi; exact ⟨b, rfl, (Option.some.inj hxi).symm⟩
      have hin : i < st.nt.length := by rw [← M.co.ln]; exact (List.getElem?_eq_some_iff.mp hb).1
      have hD : H' b = some (.dK (kv (st.nt.getD i []))) := by
        have := M'.co.hn i b hb
        rw [show ({ tr := st.tr.set c ((st.tr.getD c []).drop (shBy st c k)), nt := mapI (shN c (shBy st c k)) st.nt i } : MS).nt.getD i [] = st.nt.getD i [] from mapI_getD _ hin] at this
        exact this
      have nok : NOk (st.nt.getD i []) := W.nk _ (getD_mem hin)
      refine ⟨_, rfl, _, rfl, b, _, rfl, DGet.k (k := Sum.inl (c : Int)) hD, _, rfl, ?_⟩
      rw [valV_kv]
      cases el : look (st.nt.getD i []) c with
      | none =>
        refine iteF ?_
        refine ⟨_, rfl, ?_, S'⟩
        rw [← mapI_succ (d := []) _ hin, shN_none el]
        have : (mapI (shN c (shBy st c k)) st.nt i).set i (st.nt.getD i []) = mapI (shN c (shBy st c k)) st.nt i := by
          have h1 := set_getD (l := mapI (shN c (shBy st c k)) st.nt i) (i := i) (x := [])
          rw [mapI_getD _ hin] at h1
          exact h1
        rw [this]
        exact M'
      | some q =>
        refine iteT ?_
        have hg : DGet H' b (V.int (c : Int)) (some (V.int (q : Int))) := by
          have h1 := DGet.k (k := Sum.inl (c : Int)) hD
          rw [valV_kv, el] at h1
          exact h1
        refine ⟨_, rfl, _, rfl, b, _, rfl, hg, _, rfl, _, _, rfl, rfl, _, _, rfl, ?_⟩
        rw [note_eq]
        refine ⟨_, rfl, _, rfl, b, _, rfl, DPut.k (k := Sum.inl (c : Int)) hD (by rw [kv_length]; exact lt_line (Nat.lt_of_le_of_lt nok.few (by decide))), ?_⟩
        rw [putK_kv]
        obtain ⟨C2, S2⟩ := M'.co.setNote (l := put (st.nt.getD i []) c (q - shBy st c k)) hb
        obtain ⟨M2, S2⟩ := M'.inner C2 S2 rfl rfl
        refine ⟨_, rfl, ?_, S'.trans S2⟩
        rw [← mapI_succ (d := []) _ hin, shN_some el]
        exact M2
    · rintro σ H' ⟨v, rfl, M', S'⟩
      have e : m.co.ns.length = st.nt.length := M.co.ln
      rw [List.length_map, e, mapI_all] at M'
      exact kk _ ⟨{ m with co := { m.co with ms := m.co.ms.set c p } }, rfl, M', S1.trans S'⟩
end
end DK

/-! fence, result, access of a Memory. -/
namespace DK
open PySem L2
theorem keysS_sorted (l : NL) : (keysS l).Pairwise (· ≤ ·) := by
  have h := List.pairwise_mergeSort (le := fun a b : Nat => decide (a ≤ b)) (fun a b c h1 h2 => by
    have h1 := of_decide_eq_true h1
    have h2 := of_decide_eq_true h2
    exact decide_eq_true (Nat.le_trans h1 h2)) (fun a b => by
    rcases Nat.le_total a b with h | h
    · rw [decide_eq_true h]; rfl
    · rw [decide_eq_true h, Bool.or_true]) (l.map (·.1))
  exact h.imp fun q => of_decide_eq_true q
theorem keysS_ints {l : NL} {ys : List Int} (hp : ys.Perm (l.map fun p => (p.1 : Int))) (hs : ys.Pairwise (· ≤ ·)) : ys = (keysS l).map fun c : Nat => (c : Int) := by
  refine PySem.W.ksm_same ?_ hs ?_
  · refine hp.trans ?_
    have h1 : (keysS l).Perm (l.map (·.1)) := List.mergeSort_perm _ _
    have h2 := (h1.map fun c : Nat => (c : Int)).symm
    rw [List.map_map] at h2
    exact h2
  · rw [List.pairwise_map]
    exact (keysS_sorted l).imp fun q => by omega
theorem look_of_key {l : NL} {c : Nat} (h : c ∈ l.map (·.1)) : ∃ k, look l c = some k := by
  have : (look l c).isSome = true := by
    rw [look_isSome]
    obtain ⟨p, hp, e⟩ := List.mem_map.mp h
    exact List.any_eq_true.mpr ⟨p, hp, by simp [e]⟩
  exact Option.isSome_iff_exists.mp this
theorem foldl_take {α β : Type} (f : β → α → β) (b : β) {l : List α} {i : Nat} {x : α} (h : l[i]? = some x) : (l.take (i + 1)).foldl f b = f ((l.take i).foldl f b) x := by
  rw [List.take_succ, h, List.foldl_append]; rfl
theorem ints_at {l : List Nat} {i : Nat} {x : V} (h : ((l.map fun c : Nat => (c : Int)).map V.int)[i]? = some x) : ∃ c, l[i]? = some c ∧ x = V.int (c : Int) := by
  rw [List.getElem?_map, List.getElem?_map] at h
  cases e : l[i]? with
  | none => rw [e] at h; cases h
  | some c => rw [e] at h; exact ⟨c, rfl, (Option.some.inj h).symm⟩
section
variable {P : Program} {w : World} {K : PySem.W.Frag} {mg : Str → Option Value} {base : Heap}
theorem scFence : FnScope ["self", "thread", "places", "cell"] ["self", "thread"] (defScope sFence) := ⟨rfl, rfl, rfl, by decide +kernel, rfl, by decide +kernel, by decide +kernel⟩
def spFence (CM CL : Addr) : Sp := fun vs H Q _ => ∃ (m : MA) (s : MS) (n t : Nat), vs = [.ref m.p, .int (t : Int)] ∧ MemAt CM CL H m s n ∧ WF s 1000 ∧ t < 2 ∧
  ∀ H', After CM CL H m (fence s t) n H' → Q .non H'
theorem not_in_set {l : List Addr} {t : Nat} {p b : Addr} (hn : l.Nodup) (hb : l[t]? = some b) (hp : b ≠ p) : b ∉ l.set t p := fun z => by
  obtain ⟨j, hj⟩ := List.getElem?_of_mem z
  by_cases e : t = j
  · subst e
    rw [List.getElem?_set_self (List.getElem?_eq_some_iff.mp hb).1] at hj
    exact hp (Option.some.inj hj).symm
  · rw [List.getElem?_set_ne e] at hj
    exact e (nd_ix hn hb hj)
theorem ok_fence (T : Txt w K mg) : FnOk P w K mg base CX0 2 T.fence.f T.fence.fd ["self", "thread"] (spFence T.CM T.CL) := by
  have GS : FnOk P w K mg base CX0 1 T.shorten.f T.shorten.fd ["self", "cell", "steps"] _ := ok_shorten T
  refine T.fence.F.ok scFence (fun vs H Q E h => ?_) (fun cdv A outer s H vs Q E hr h => ?_)
  · obtain ⟨m, s, n, t, rfl, _⟩ := h
    rfl
  · obtain ⟨m, st, n, t, rfl, M, W, ht, kk⟩ := h
    have hu := hu_of hr
    refine ⟨_, pss_cons (ps_set (i := 2) scFence.nd rfl (Or.inl rfl) (pe_ix ix_list (pe_fld (pv 0) rfl) (pv 1) (fun _ _ => rfl)))
      (pss_cons (ps_asg pe_dnewK (pg_sub (pe_fld (pv 0) rfl) (pv 1) set_list))
      (pss_one (ps_for PassesOwn.never rfl (pi_list (pe_callB (call_sortedDI rfl) (by rfl) T.bSorted boot_sorted' (pa_cons (pv 2) pa_nil))) (pg_name (i := 3) scFence.nd rfl (Or.inl rfl))
        (pss_one (ps_expr (pe_meth (pv 0) T.clM T.shorten.m GS hr T.shorten.b .nil pass0 (pa_cons (pv 3) (pa_cons (pe_dget hu (pv 2) (pv 3) (fun _ _ => rfl)) pa_nil)))))))), ?_⟩
    have hi : t < st.nt.length := by rw [W.nl]; exact ht
    obtain ⟨b, hb, hbf, hD⟩ := M.co.ns_at hi
    refine ⟨_, rfl, m.p, _, m.dx, _, _, rfl, M.hp, T.clM, T.nNotes, mf_notes, _, rfl, m.co.nt, _, _, .ref b, rfl, rfl, SqL.of M.co.hnt, atI_nat (ref_at hb), ?_⟩
    intro p hp
    have np : m.p ≠ p := ne_of_none M.hp hp
    obtain ⟨C1, S1⟩ := M.co.newNote hi hp
    obtain ⟨M1, S1⟩ := M.inner C1 S1 rfl rfl
    refine ⟨_, rfl, m.p, _, m.dx, _, _, rfl, (by rw [upd_ne np]; exact M.hp), T.clM, T.nNotes, mf_notes, _, rfl, m.co.nt, _, _, t, rfl, rfl, (by rw [upd_ne (ne_of_none M.co.hnt hp)]; exact M.co.hnt), ixN_nat (by rw [List.length_map, M.co.ln]; exact hi), ?_⟩
    have hb1 : (upd (upd H p (.dK [])) m.co.nt (.lst ((m.co.ns.map V.ref).set t (.ref p)))) b = some (.dK (kv (st.nt.getD t []))) := by
      rw [upd_ne, upd_ne (ne_of_none hD hp)]
      · exact hD
      · exact ne_of hD M.co.hnt (by intro z; cases z)
    have hbn : b ∉ ({ m with co := { m.co with ns := m.co.ns.set t p } } : MA).fp := by
      obtain ⟨q1, q2, q3, q4, q5, q6⟩ := M.parts
      obtain ⟨p1, p2, p3, p4, p5, p6, p7, p8⟩ := M.co.parts
      intro z
      have z' : b ∈ m.p :: m.ly :: m.rows :: m.co.tr :: m.co.nt :: (m.co.ms ++ m.co.ns.set t p) := z
      simp only [List.mem_cons, List.mem_append] at z'
      rcases z' with e | e | e | e | e | e | e
      · exact q4 (by rw [← e]; exact hbf)
      · exact q5 (by rw [← e]; exact hbf)
      · exact q6 (by rw [← e]; exact hbf)
      · exact p3 (by rw [← e]; exact List.mem_of_getElem? hb)
      · exact p5 (by rw [← e]; exact List.mem_of_getElem? hb)
      · exact p8 b e (List.mem_of_getElem? hb)
      · exact not_in_set p7 hb (ne_of_none hD hp) e
    generalize hH1 : upd (upd H p (.dK [])) m.co.nt (.lst ((m.co.ns.map V.ref).set t (.ref p))) = H1 at M1 S1 hb1 ⊢
    have nok : NOk (st.nt.getD t []) := W.nk _ (getD_mem hi)
    have W1 : WF { st with nt := st.nt.set t [] } 1000 := W.setNote NOk.nil
    refine ⟨_, rfl, b, _, _, rfl, .inl hb1, keys_kv _, by rw [List.length_map]; exact Nat.lt_of_le_of_lt nok.few (by decide), fun ys q hperm hsort hq => ?_⟩
    have eys := keysS_ints hperm hsort
    subst eys
    have sm : Same H1 (upd H1 q (.lst (((keysS (st.nt.getD t [])).map fun c : Nat => (c : Int)).map V.int))) := fun c o e => by rw [upd_ne (ne_of_none e hq)]; exact e
    refine ⟨q, rfl, ⟨_, SqL.of upd_same⟩, for_list (K := K) (a := q) (xs := ((keysS (st.nt.getD t [])).map fun c : Nat => (c : Int)).map V.int)
      (fun i σ H' => ∃ (v : Option V) (m' : MA), σ = [some (.ref m.p), some (.int (t : Int)), some (.ref b), v] ∧ m'.p = m.p ∧
        MemAt T.CM T.CL H' m' (((keysS (st.nt.getD t [])).take i).foldl (fenceTurn (st.nt.getD t [])) { st with nt := st.nt.set t [] }) n ∧
        Step H1 ({ m with co := { m.co with ns := m.co.ns.set t p } } : MA).fp H' m'.fp ∧
        H' q = some (.lst (((keysS (st.nt.getD t [])).map fun c : Nat => (c : Int)).map V.int)) ∧ q ∉ m'.fp)
      ⟨none, { m with co := { m.co with ns := m.co.ns.set t p } }, rfl, rfl, M1.same sm, Step.same sm, upd_same, M1.fresh hq⟩ (fun i σ H' _ ⟨_, _, _, _, _, _, h, _⟩ => SqL.of h) ?_ ?_⟩
    · rintro i x σ H' hxi ⟨v, m', rfl, ep, M', S', hl', hqn⟩
      obtain ⟨c, hci, rfl⟩ := ints_at hxi
      have hck : c ∈ keysS (st.nt.getD t []) := List.mem_of_getElem? hci
      have hcl : c ∈ (st.nt.getD t []).map (·.1) := mem_keysS.mp hck
      obtain ⟨k, hk⟩ := look_of_key hcl
      have hc13 := keysS_lt nok c hck
      have hb' : H' b = some (.dK (kv (st.nt.getD t []))) := S'.keep b _ hb1 hbn
      have hg : DGet H' b (V.int (c : Int)) (some (V.int (k : Int))) := by
        have h1 := DGet.k (k := Sum.inl (c : Int)) hb'
        rw [valV_kv, hk] at h1
        exact h1
      have W' : WF (((keysS (st.nt.getD t [])).take i).foldl (fenceTurn (st.nt.getD t [])) { st with nt := st.nt.set t [] }) 1000 := W1.fenceLoop fun x hx => keysS_lt nok x (List.mem_of_mem_take hx)
      have hpm : H' m.p = some (.ins T.CM m'.dx (mf m'.ly n m'.rows m'.co.tr m'.co.nt)) := by rw [← ep]; exact M'.hp
      refine ⟨_, rfl, m.p, m'.dx, _, rfl, hpm, mf_no (by decide +kernel), _, rfl, _, rfl, _, rfl, b, _, rfl, hg, m', _, n, c, k, by rw [ep]; rfl, M', W', hc13, fun H2 A2 => ?_⟩
      obtain ⟨m2, e2, M2, S2⟩ := A2
      obtain ⟨h2, hn2⟩ := S2.out hl' hqn
      refine ⟨_, m2, rfl, e2.trans ep, ?_, S'.trans S2, h2, hn2⟩
      rw [foldl_take _ _ hci]
      have : fenceTurn (st.nt.getD t []) (((keysS (st.nt.getD t [])).take i).foldl (fenceTurn (st.nt.getD t [])) { st with nt := st.nt.set t [] }) c = shorten (((keysS (st.nt.getD t [])).take i).foldl (fenceTurn (st.nt.getD t [])) { st with nt := st.nt.set t [] }) c k := by
        show shorten _ c ((look (st.nt.getD t []) c).getD 0) = _
        rw [hk]; rfl
      rw [this]
      exact M2
    · rintro σ H' ⟨v, m', rfl, ep, M', S', _, _⟩
      rw [List.length_map, List.length_map, List.take_length] at M'
      exact kk _ ⟨m', ep, M', S1.trans S'⟩

/-! ### result -/
theorem scResult : FnScope ["self", "thread", "request", "kind", "cell", "value"] ["self", "thread", "request"] (defScope sResult) := ⟨rfl, rfl, rfl, by decide +kernel, rfl, by decide +kernel, by decide +kernel⟩
/-- a request as it lies on the heap -/
inductive RqAt (H : Hp) (r : Addr) : Rq → Prop
  | read {c : Nat} : H r = some (.tup [.str "read", .int (c : Int)]) → RqAt H r (.read c)
  | write {c : Nat} {v : V} {d : PyData} : H r = some (.tup [.str "write", .int (c : Int), v]) → Dt H v d → RqAt H r (.write c d)
  | swap {c : Nat} {v u : V} {d e : PyData} : H r = some (.tup [.str "swap", .int (c : Int), v, u]) → Dt H v d → Dt H u e → RqAt H r (.swap c d e)
  | dec {c : Nat} {x : Str} : H r = some (.tup [.str "decide", .int (c : Int), .str x]) → RqAt H r (.decide c x)
  | flush {c : Nat} : H r = some (.tup [.str "flush", .int (c : Int)]) → RqAt H r (.flush c)
  | fence : H r = some (.tup [.str "fence"]) → RqAt H r .fence
theorem RqAt.to {H H' : Hp} {r : Addr} {rq : Rq} (h : RqAt H r rq) (t : Tups H H') : RqAt H' r rq := by
  cases h with
  | read h => exact .read (t _ _ h)
  | write h d => exact .write (t _ _ h) (d.to t)
  | swap h d e => exact .swap (t _ _ h) (d.to t) (e.to t)
  | dec h => exact .dec (t _ _ h)
  | flush h => exact .flush (t _ _ h)
  | fence h => exact .fence (t _ _ h)
end
end DK

/-! result, access, peek, lasting, trail, drift, log of a Memory. -/
namespace DK
open PySem L2
theorem same_new {H : Hp} {p : Addr} {o : HO} (h : H p = none) : Same H (upd H p o) := fun b u e => by rw [upd_ne (ne_of_none e h)]; exact e
theorem strNe {a b : Str} (h : ¬ a = b) : decide (V.str a = V.str b) = false := decide_eq_false fun z => h (V.str.inj z)
theorem strEq {a : Str} : decide (V.str a = V.str a) = true := decide_eq_true rfl
section
variable {P : Program} {w : World} {K : PySem.W.Frag} {mg : Str → Option Value} {base : Heap}
theorem After.from_same {CM CL : Addr} {H H1 H' : Hp} {m : MA} {s' : MS} {n' : Nat} (h : Same H H1) (a : After CM CL H1 m s' n' H') : After CM CL H m s' n' H' := by
  obtain ⟨m', e, M, S⟩ := a
  exact ⟨m', e, M, Step.from_same h S⟩
theorem After.none {CM CL : Addr} {H : Hp} {m : MA} {s : MS} {n : Nat} (M : MemAt CM CL H m s n) : After CM CL H m s n H := ⟨m, rfl, M, Step.refl _ _⟩
theorem After.tups {CM CL : Addr} {H H' : Hp} {m : MA} {s' : MS} {n' : Nat} (a : After CM CL H m s' n' H') : Tups H H' := by
  obtain ⟨m', e, M, S⟩ := a
  exact S.tups
def spResult (CM CL : Addr) : Sp := fun vs H Q _ => ∃ (m : MA) (s : MS) (n t : Nat) (r : Addr) (rq : Rq), vs = [.ref m.p, .int (t : Int), .ref r] ∧ MemAt CM CL H m s n ∧ WF s 1000 ∧ t < 2 ∧ RqAt H r rq ∧ RqOk rq ∧
  ∀ v H', Dt H' v (acc s n t rq).1 → After CM CL H m (acc s n t rq).2 n H' → Q v H'
theorem ok_result (T : Txt w K mg) : FnOk P w K mg base CX0 5 T.result.f T.result.fd ["self", "thread", "request"] (spResult T.CM T.CL) := by
  have GF : FnOk P w K mg base CX0 2 T.fence.f T.fence.fd ["self", "thread"] _ := ok_fence T
  have GG : FnOk P w K mg base CX0 4 T.give.f T.give.fd ["self", "cell", "value"] _ := ok_give T
  refine T.result.F.ok scResult (fun vs H Q E h => ?_) (fun cdv A outer s H vs Q E hr h => ?_)
  · obtain ⟨m, s, n, t, r, rq, rfl, _⟩ := h
    rfl
  · obtain ⟨m, st, n, t, r, rq, rfl, M, W, ht, hq, ho, kk⟩ := h
    have hu := hu_of hr
    refine ⟨_, pss_cons (ps_set (i := 3) scResult.nd rfl (Or.inl rfl) (pe_ix ix_tup (pv 2) pe_int (fun _ _ => rfl)))
      (pss_cons (ps_if (pt_cmpR op_eq (pv 3) pe_str (nomark _)) (pss_one (ps_ret (pe_meth (pv 0) T.clM T.fence.m GF (hr.mono (by decide)) T.fence.b .nil pass0 (pa_cons (pv 1) pa_nil)))) pss_nil)
      (pss_cons (ps_set (i := 4) scResult.nd rfl (Or.inl rfl) (pe_ix ix_tup (pv 2) pe_int (fun _ _ => rfl)))
      (pss_cons (ps_if (pt_cmpR op_eq (pv 3) pe_str (nomark _))
        (pss_cons (ps_dput hu (pe_ix ix_list (pe_fld (pv 0) rfl) (pv 1) (fun _ _ => rfl)) (pv 4) (pe_op op_sub (pe_callB call_len_seq (by rfl) T.bLen PySem.boot_len (pa_cons (pe_ix ix_list (pe_fld (pv 0) rfl) (pv 4) (fun _ _ => rfl)) pa_nil)) pe_int) rfl)
          (pss_one (ps_ret pe_non))) pss_nil)
      (pss_cons (ps_set (i := 5) scResult.nd rfl (Or.inl rfl) (pe_ix ix_list (pe_ix ix_list (pe_fld (pv 0) rfl) (pv 4) (fun _ _ => rfl)) (pe_un un_neg pe_int) (fun _ _ => rfl)))
      (pss_cons (ps_if (pt_cmpR op_eq (pv 3) pe_str (nomark _)) (pss_one (ps_ret (pv 5))) pss_nil)
      (pss_cons (ps_if (pt_cmpR op_eq (pv 3) pe_str (nomark _))
        (pss_cons (ps_expr (pe_meth (pv 0) T.clM T.give.m GG (hr.mono (by decide)) T.give.b .nil pass0 (pa_cons (pv 4) (pa_cons (pe_ix ix_tup (pv 2) pe_int (fun _ _ => rfl)) pa_nil)))) (pss_one (ps_ret pe_non))) pss_nil)
      (pss_cons (ps_if (pt_cmpR op_eq (pv 3) pe_str (nomark _))
        (pss_cons (ps_if (pt_cmpR (op_neD hr.units) (pv 5) (pe_ix ix_tup (pv 2) pe_int (fun _ _ => rfl)) (nomark _)) (pss_one (ps_ret pe_bl)) pss_nil)
        (pss_cons (ps_expr (pe_meth (pv 0) T.clM T.give.m GG (hr.mono (by decide)) T.give.b .nil pass0 (pa_cons (pv 4) (pa_cons (pe_ix ix_tup (pv 2) pe_int (fun _ _ => rfl)) pa_nil)))) (pss_one (ps_ret pe_bl)))) pss_nil)
      (pss_cons (ps_if (pt_cmpR (op_neD hr.units) (pv 5) pe_int (nomark _)) (pss_one (ps_ret pe_bl)) pss_nil)
      (pss_cons (ps_expr (pe_meth (pv 0) T.clM T.give.m GG (hr.mono (by decide)) T.give.b .nil pass0 (pa_cons (pv 4) (pa_cons (pe_tup (pa_cons (pe_ix ix_tup (pv 2) pe_int (fun _ _ => rfl)) (pa_cons (pe_fld (pv 0) rfl) pa_nil))) pa_nil))))
      (pss_one (ps_ret pe_bl))))))))))), ?_⟩
    cases hq with
    | fence hx =>
      refine ⟨_, rfl, r, _, _, _, rfl, rfl, SqT.of hx, atI_nat (j := 0) rfl, _, rfl, rfl, _, rfl, ?_⟩
      rw [strEq]
      refine iteT ?_
      exact ⟨_, rfl, m.p, m.dx, _, rfl, M.hp, mf_no (by decide +kernel), _, rfl, m, st, n, t, rfl, M, W, ht, fun H' A => kk _ _ .non A⟩
    | @flush c hx =>
      have hc : c < 13 := ho.2
      have hi : c < st.tr.length := by rw [W.tl]; exact hc
      obtain ⟨a, ha, _, xs, hx2, dx⟩ := M.co.ms_at hi
      have hti : t < st.nt.length := by rw [W.nl]; exact ht
      obtain ⟨b, hb, _, hD⟩ := M.co.ns_at hti
      have nok : NOk (st.nt.getD t []) := W.nk _ (getD_mem hti)
      have hpos : 0 < (st.tr.getD c []).length := List.length_pos_iff.mpr (W.ne _ (W.at_mem hc))
      refine ⟨_, rfl, r, _, _, _, rfl, rfl, SqT.of hx, atI_nat (j := 0) rfl, _, rfl, rfl, _, rfl, ?_⟩
      rw [strNe (by decide +kernel)]
      refine iteF ?_
      refine ⟨_, rfl, r, _, _, _, rfl, rfl, SqT.of hx, atI_nat (j := 1) rfl, _, rfl, rfl, _, rfl, ?_⟩
      rw [strEq]
      refine iteT ?_
      refine ⟨_, rfl, m.p, _, m.dx, _, _, rfl, M.hp, T.clM, T.nTrails, mf_trails, _, rfl, m.co.tr, _, _, .ref a, rfl, rfl, SqL.of M.co.htr, atI_nat (ref_at ha), a, _, rfl, .inl (SqL.of hx2), _, _, rfl, rfl, ?_⟩
      have el : ((xs.length : Nat) : Int) - 1 = (((st.tr.getD c []).length - 1 : Nat) : Int) := by rw [dx.length]; omega
      have hput : DPut H b (.int (c : Int)) (.int (((xs.length : Nat) : Int) - 1)) (upd H b (.dK (kv (put (st.nt.getD t []) c ((st.tr.getD c []).length - 1))))) := by
        rw [← putK_kv, el]
        exact DPut.k (k := Sum.inl (c : Int)) hD (by rw [kv_length]; exact lt_line (Nat.lt_of_le_of_lt nok.few (by decide)))
      refine ⟨_, rfl, m.p, _, m.dx, _, _, rfl, M.hp, T.clM, T.nNotes, mf_notes, _, rfl, m.co.nt, _, _, .ref b, rfl, rfl, SqL.of M.co.hnt, atI_nat (ref_at hb), _, rfl, b, _, rfl, hput, ?_⟩
      obtain ⟨C2, S2⟩ := M.co.setNote (l := put (st.nt.getD t []) c ((st.tr.getD c []).length - 1)) hb
      obtain ⟨M2, S2⟩ := M.inner C2 S2 rfl rfl
      exact kk _ _ .non ⟨m, rfl, M2, S2⟩
    | @read c hx =>
      have hc : c < 13 := ho
      have hi : c < st.tr.length := by rw [W.tl]; exact hc
      obtain ⟨a, ha, _, xs, hx2, dx⟩ := M.co.ms_at hi
      obtain ⟨v, hv, dv⟩ := dx.last (W.ne _ (W.at_mem hc))
      refine ⟨_, rfl, r, _, _, _, rfl, rfl, SqT.of hx, atI_nat (j := 0) rfl, _, rfl, rfl, _, rfl, ?_⟩
      rw [strNe (by decide +kernel)]
      refine iteF ?_
      refine ⟨_, rfl, r, _, _, _, rfl, rfl, SqT.of hx, atI_nat (j := 1) rfl, _, rfl, rfl, _, rfl, ?_⟩
      rw [strNe (by decide +kernel)]
      refine iteF ?_
      refine ⟨_, rfl, m.p, _, m.dx, _, _, rfl, M.hp, T.clM, T.nTrails, mf_trails, _, rfl, m.co.tr, _, _, .ref a, rfl, rfl, SqL.of M.co.htr, atI_nat (ref_at ha), _, rfl, a, _, _, v, rfl, rfl, SqL.of hx2, atI_m1 hv, ?_⟩
      refine ⟨_, rfl, rfl, _, rfl, ?_⟩
      rw [strEq]
      refine iteT ?_
      exact ⟨v, rfl, kk _ _ dv (After.none M)⟩
    | @write c u d hx hd =>
      have hc : c < 13 := ho.1
      have hi : c < st.tr.length := by rw [W.tl]; exact hc
      obtain ⟨a, ha, _, xs, hx2, dx⟩ := M.co.ms_at hi
      obtain ⟨v, hv, dv⟩ := dx.last (W.ne _ (W.at_mem hc))
      refine ⟨_, rfl, r, _, _, _, rfl, rfl, SqT.of hx, atI_nat (j := 0) rfl, _, rfl, rfl, _, rfl, ?_⟩
      rw [strNe (by decide +kernel)]
      refine iteF ?_
      refine ⟨_, rfl, r, _, _, _, rfl, rfl, SqT.of hx, atI_nat (j := 1) rfl, _, rfl, rfl, _, rfl, ?_⟩
      rw [strNe (by decide +kernel)]
      refine iteF ?_
      refine ⟨_, rfl, m.p, _, m.dx, _, _, rfl, M.hp, T.clM, T.nTrails, mf_trails, _, rfl, m.co.tr, _, _, .ref a, rfl, rfl, SqL.of M.co.htr, atI_nat (ref_at ha), _, rfl, a, _, _, v, rfl, rfl, SqL.of hx2, atI_m1 hv, ?_⟩
      refine ⟨_, rfl, rfl, _, rfl, ?_⟩
      rw [strNe (by decide +kernel)]
      refine iteF ?_
      refine ⟨_, rfl, rfl, _, rfl, ?_⟩
      rw [strEq]
      refine iteT ?_
      exact ⟨_, rfl, m.p, m.dx, _, rfl, M.hp, mf_no (by decide +kernel), _, rfl, _, rfl, r, _, _, _, rfl, rfl, SqT.of hx, atI_nat (j := 2) rfl, m, st, n, c, u, d, rfl, M, W, hc, hd, fun H' A => kk _ _ .non A⟩
    | @swap c u x d e hx hd he =>
      have hc : c < 13 := ho.1
      have hi : c < st.tr.length := by rw [W.tl]; exact hc
      obtain ⟨a, ha, _, xs, hx2, dx⟩ := M.co.ms_at hi
      obtain ⟨v, hv, dv⟩ := dx.last (W.ne _ (W.at_mem hc))
      refine ⟨_, rfl, r, _, _, _, rfl, rfl, SqT.of hx, atI_nat (j := 0) rfl, _, rfl, rfl, _, rfl, ?_⟩
      rw [strNe (by decide +kernel)]
      refine iteF ?_
      refine ⟨_, rfl, r, _, _, _, rfl, rfl, SqT.of hx, atI_nat (j := 1) rfl, _, rfl, rfl, _, rfl, ?_⟩
      rw [strNe (by decide +kernel)]
      refine iteF ?_
      refine ⟨_, rfl, m.p, _, m.dx, _, _, rfl, M.hp, T.clM, T.nTrails, mf_trails, _, rfl, m.co.tr, _, _, .ref a, rfl, rfl, SqL.of M.co.htr, atI_nat (ref_at ha), _, rfl, a, _, _, v, rfl, rfl, SqL.of hx2, atI_m1 hv, ?_⟩
      refine ⟨_, rfl, rfl, _, rfl, ?_⟩
      rw [strNe (by decide +kernel)]
      refine iteF ?_
      refine ⟨_, rfl, rfl, _, rfl, ?_⟩
      rw [strNe (by decide +kernel)]
      refine iteF ?_
      refine ⟨_, rfl, rfl, _, rfl, ?_⟩
      rw [strEq]
      refine iteT ?_
      refine ⟨_, rfl, _, rfl, r, _, _, _, rfl, rfl, SqT.of hx, atI_nat (j := 2) rfl, lastD (st.tr.getD c []), d, dv.dp, hd.dp, (W.last hc).shaped, ho.2.1.shaped, _, rfl, ?_⟩
      cases eq : PyData.eqv (lastD (st.tr.getD c [])) d with
      | false =>
        have ea : acc st n t (.swap c d e) = (.bool false, st) := if_neg (by rw [eq]; exact Bool.false_ne_true)
        rw [ea] at kk
        refine iteT ?_
        exact kk _ _ (.bl false) (After.none M)
      | true =>
        have ea : acc st n t (.swap c d e) = (.bool true, give st c e) := if_pos eq
        rw [ea] at kk
        refine iteF ?_
        exact ⟨_, rfl, m.p, m.dx, _, rfl, M.hp, mf_no (by decide +kernel), _, rfl, _, rfl, r, _, _, _, rfl, rfl, SqT.of hx, atI_nat (j := 3) rfl, m, st, n, c, x, e, rfl, M, W, hc, he, fun H' A => kk _ _ (.bl true) A⟩
    | @dec c x hx =>
      have hc : c < 13 := ho.1
      have hi : c < st.tr.length := by rw [W.tl]; exact hc
      obtain ⟨a, ha, _, xs, hx2, dx⟩ := M.co.ms_at hi
      obtain ⟨v, hv, dv⟩ := dx.last (W.ne _ (W.at_mem hc))
      refine ⟨_, rfl, r, _, _, _, rfl, rfl, SqT.of hx, atI_nat (j := 0) rfl, _, rfl, rfl, _, rfl, ?_⟩
      rw [strNe (by decide +kernel)]
      refine iteF ?_
      refine ⟨_, rfl, r, _, _, _, rfl, rfl, SqT.of hx, atI_nat (j := 1) rfl, _, rfl, rfl, _, rfl, ?_⟩
      rw [strNe (by decide +kernel)]
      refine iteF ?_
      refine ⟨_, rfl, m.p, _, m.dx, _, _, rfl, M.hp, T.clM, T.nTrails, mf_trails, _, rfl, m.co.tr, _, _, .ref a, rfl, rfl, SqL.of M.co.htr, atI_nat (ref_at ha), _, rfl, a, _, _, v, rfl, rfl, SqL.of hx2, atI_m1 hv, ?_⟩
      refine ⟨_, rfl, rfl, _, rfl, ?_⟩
      rw [strNe (by decide +kernel)]
      refine iteF ?_
      refine ⟨_, rfl, rfl, _, rfl, ?_⟩
      rw [strNe (by decide +kernel)]
      refine iteF ?_
      refine ⟨_, rfl, rfl, _, rfl, ?_⟩
      rw [strNe (by decide +kernel)]
      refine iteF ?_
      refine ⟨_, rfl, lastD (st.tr.getD c []), .int 0, dv.dp, .int 0, (W.last hc).shaped, (Gd.int 0).shaped, _, rfl, ?_⟩
      cases eq : PyData.eqv (lastD (st.tr.getD c [])) (.int 0) with
      | false =>
        have ea : acc st n t (.decide c x) = (.bool false, st) := if_neg (by rw [eq]; exact Bool.false_ne_true)
        rw [ea] at kk
        refine iteT ?_
        exact kk _ _ (.bl false) (After.none M)
      | true =>
        have ea : acc st n t (.decide c x) = (.bool true, give st c (.tuple [.str x, .int n])) := if_pos eq
        rw [ea] at kk
        refine iteF ?_
        refine ⟨_, rfl, m.p, m.dx, _, rfl, M.hp, mf_no (by decide +kernel), _, rfl, _, rfl, r, _, _, _, rfl, rfl, SqT.of hx, atI_nat (j := 2) rfl, _, rfl, m.p, _, m.dx, _, _, rfl, M.hp, T.clM, T.nCount, mf_count, le_line (by simp), fun p hp => ?_⟩
        have sm : Same H (upd H p (.tup [.str x, .int (n : Int)])) := same_new hp
        refine ⟨m, st, n, c, .ref p, .tuple [.str x, .int n], rfl, M.same sm, W, hc, .tup upd_same (.cons (.str x) (.cons (.int n) .nil)), fun H' A => ?_⟩
        exact kk _ _ (.bl true) (After.from_same sm A)
end
end DK

/-! access, peek, lasting, trail, drift, log of a Memory. -/
namespace DK
open PySem L2
section
variable {P : Program} {w : World} {K : PySem.W.Frag} {mg : Str → Option Value} {base : Heap}
theorem mf_put_count {ly rows tr nt : Addr} {n : Nat} : putF "count" (.int ((n : Int) + 1)) (mf ly n rows tr nt) = mf ly (n + 1) rows tr nt := by
  unfold mf
  show (if ("layout" : Str) = "count" then _ else (("layout" : Str), V.ref ly) :: (if ("count" : Str) = "count" then (("count" : Str), V.int ((n : Int) + 1)) :: _ else _)) = _
  rw [if_neg (by decide +kernel), if_pos rfl]
  rfl
theorem mf_put_notes {ly rows tr nt q : Addr} {n : Nat} : putF "notes" (.ref q) (mf ly n rows tr nt) = mf ly n rows tr q := by
  unfold mf
  show (if ("layout" : Str) = "notes" then _ else (("layout" : Str), V.ref ly) :: (if ("count" : Str) = "notes" then _ else (("count" : Str), V.int (n : Int)) :: (if ("rows" : Str) = "notes" then _ else (("rows" : Str), V.ref rows) ::
    (if ("trails" : Str) = "notes" then _ else (("trails" : Str), V.ref tr) :: (if ("notes" : Str) = "notes" then (("notes" : Str), V.ref q) :: _ else _))))) = _
  rw [if_neg (by decide +kernel), if_neg (by decide +kernel), if_neg (by decide +kernel), if_neg (by decide +kernel), if_pos rfl]
/-- one access is counted and written down -/
theorem MemAt.bump {CM CL : Addr} {H : Hp} {m : MA} {s : MS} {n : Nat} {rs : List V} {q : Addr} {xs : List V} (M : MemAt CM CL H m s n) (hr : H m.rows = some (.lst rs)) (hl : rs.length = n) (hq : H q = none) :
    MemAt CM CL (upd (upd (upd H m.p (.ins CM m.dx (mf m.ly (n + 1) m.rows m.co.tr m.co.nt))) q (.tup xs)) m.rows (.lst (rs ++ [.ref q]))) m s (n + 1) ∧
      Step H m.fp (upd (upd (upd H m.p (.ins CM m.dx (mf m.ly (n + 1) m.rows m.co.tr m.co.nt))) q (.tup xs)) m.rows (.lst (rs ++ [.ref q]))) m.fp := by
  obtain ⟨p1, p2, p3, p4, p5, p6⟩ := M.parts
  have nq := M.fresh hq
  have qp : m.p ≠ q := ne_of_none M.hp hq
  have qr : m.rows ≠ q := ne_of_none hr hq
  have ql : m.ly ≠ q := ne_of_none M.hly hq
  have at_ : ∀ b, b ≠ m.p → b ≠ q → b ≠ m.rows → (upd (upd (upd H m.p (.ins CM m.dx (mf m.ly (n + 1) m.rows m.co.tr m.co.nt))) q (.tup xs)) m.rows (.lst (rs ++ [.ref q]))) b = H b := fun b h1 h2 h3 => by
    rw [upd_ne h3, upd_ne h2, upd_ne h1]
  have tp : Tups H (upd (upd (upd H m.p (.ins CM m.dx (mf m.ly (n + 1) m.rows m.co.tr m.co.nt))) q (.tup xs)) m.rows (.lst (rs ++ [.ref q]))) := fun b ys e => by
    rw [at_ b (ne_of e M.hp (by intro z; cases z)) (ne_of_none e hq) (ne_of e hr (by intro z; cases z))]; exact e
  refine ⟨⟨M.nd, ?_, ?_, ⟨rs ++ [.ref q], upd_same, by rw [List.length_append, hl]; rfl⟩, M.co.move (fun b hb => ?_) tp⟩, ⟨fun b o e hb => ?_, fun b hb => .inl hb, tp⟩⟩
  · rw [upd_ne p2, upd_ne qp, upd_same]
  · rw [at_ _ p1.symm ql p3]; exact M.hly
  · refine at_ b ?_ ?_ ?_
    · intro z; subst z; exact p4 hb
    · intro z; subst z; exact nq (MA.sub hb)
    · intro z; subst z; exact p6 hb
  · rw [at_ b ?_ (ne_of_none e hq) ?_]
    · exact e
    · intro z; subst z; exact hb List.mem_cons_self
    · intro z; subst z; exact hb (List.mem_cons_of_mem _ (List.mem_cons_of_mem _ List.mem_cons_self))
theorem RqAt.chk {H : Hp} {r : Addr} {rq : Rq} (h : RqAt H r rq) (ho : RqOk rq) {t : Nat} (ht : t < 2) : ∃ xs, H r = some (.tup xs) ∧ Chk (t : Int) xs true := by
  have h2 : (0 : Int) ≤ (t : Int) ∧ (t : Int) ≤ 1 := ⟨by omega, by omega⟩
  have c13 : ∀ {c : Nat}, c < 13 → decide ((0 : Int) ≤ (c : Int) ∧ (c : Int) < 13) = true := fun {c} hc => decide_eq_true ⟨by omega, by omega⟩
  cases h with
  | @read c h =>
    have := Chk.cell (c := (c : Int)) (rest := []) h2 LTab.read (by decide +kernel) (by decide +kernel)
    rw [c13 ho] at this
    exact ⟨_, h, this⟩
  | @write c v d h hd =>
    have := Chk.cell (c := (c : Int)) (rest := [v]) h2 LTab.write (by decide +kernel) (by decide +kernel)
    rw [c13 ho.1] at this
    exact ⟨_, h, this⟩
  | @swap c v u d e h hd he =>
    have := Chk.cell (c := (c : Int)) (rest := [v, u]) h2 LTab.swap (by decide +kernel) (by decide +kernel)
    rw [c13 ho.1] at this
    exact ⟨_, h, this⟩
  | @dec c x h =>
    have := Chk.cell (c := (c : Int)) (rest := [.str x]) h2 LTab.dec (by decide +kernel) (by decide +kernel)
    rw [c13 ho.1] at this
    exact ⟨_, h, this⟩
  | @flush c h =>
    have := Chk.flush (c := (c : Int)) h2
    rw [decide_eq_true (show (3 : Int) ≤ (c : Int) ∧ (c : Int) < 13 from ⟨by have := ho.1; omega, by have := ho.2; omega⟩)] at this
    exact ⟨_, h, this⟩
  | fence h => exact ⟨_, h, Chk.fence h2⟩
/-! ### access -/
theorem scAccess : FnScope ["self", "thread", "request"] ["self", "thread", "request"] (defScope sAccess) := ⟨rfl, rfl, rfl, by decide +kernel, rfl, by decide +kernel, by decide +kernel⟩
def spAccess (CM CL NV : Addr) : Sp := fun vs H Q E => ∃ (m : MA) (s : MS) (n : Nat) (t : Int) (r : Addr), vs = [.ref m.p, .int t, .ref r] ∧ MemAt CM CL H m s n ∧ WF s n ∧ n < 999 ∧
  ((∃ xs, H r = some (.tup xs) ∧ Chk t xs false ∧ E (.ref NV) none H) ∨
   ∃ (u : Nat) (rq : Rq), t = (u : Int) ∧ u < 2 ∧ RqAt H r rq ∧ RqOk rq ∧
     ∀ v p H', Dt H' v (acc s (n + 1) u rq).1 → After CM CL H m (acc s (n + 1) u rq).2 (n + 1) H' → H' p = some (.tup [v, .int ((n + 1 : Nat) : Int)]) → Q (.ref p) H')
theorem ok_access (T : Txt w K mg) : FnOk P w K mg base (L2.CX P w) 6 T.access.f T.access.fd ["self", "thread", "request"] (spAccess T.CM T.CL T.NV) := by
  have GC : FnOk P w K mg base (L2.CX P w) 5 T.checkRequest.f T.checkRequest.fd ["self", "thread", "request"] _ := ok_checkRequest T
  have GR : FnOk P w K mg base CX0 5 T.result.f T.result.fd ["self", "thread", "request"] _ := ok_result T
  refine T.access.F.okX scAccess (fun vs H Q E h => ?_) (fun cdv A outer s H vs Q E hr h => ?_)
  · obtain ⟨m, s, n, t, r, rfl, _⟩ := h
    rfl
  · obtain ⟨m, st, n, t, r, rfl, M, W, hn, hk⟩ := h
    refine ⟨_, pss_cons (ps_expr (pe_meth (pv 0) T.clM T.checkRequest.m GC hr T.checkRequest.b .nil (passes_call (E := E) (takes_of rfl rfl rfl rfl) fun _ _ _ _ h => h) (pa_cons (pv 1) (pa_cons (pv 2) pa_nil))))
      (pss_cons (ps_fldaug (pv 0) pe_int in_add)
      (pss_cons (ps_expr (pe_bm PySem.F.plainAttrs_list PySem.F.slot_list_append PySem.F.type_list_append mt_append (pe_fld (pv 0) rfl) (pa_cons (pe_tup (pa_cons (pe_fld (pv 0) rfl) (pa_cons (pv 1) (pa_cons (pv 2) pa_nil)))) pa_nil)))
      (pss_one (ps_ret (pe_tup (pa_cons (pe_meth (pv 0) T.clM T.result.m GR hr T.result.b .nil pass0 (pa_cons (pv 1) (pa_cons (pv 2) pa_nil))) (pa_cons (pe_fld (pv 0) rfl) pa_nil))))))), ?_⟩
    have h13 : st.tr.length = 13 := W.tl
    rcases hk with ⟨xs, hx, hc, hE⟩ | ⟨u, rq, rfl, hu, hq, ho, kk⟩
    · exact ⟨_, rfl, m.p, m.dx, _, rfl, M.hp, mf_no (by decide +kernel), _, rfl, _, rfl, m, st, n, _, false, rfl, M, h13, ⟨t, r, xs, rfl, hx, hc⟩, fun z => Bool.noConfusion z, fun _ => hE⟩
    · obtain ⟨xs, hx, hc⟩ := hq.chk ho hu
      refine ⟨_, rfl, m.p, m.dx, _, rfl, M.hp, mf_no (by decide +kernel), _, rfl, _, rfl, m, st, n, _, true, rfl, M, h13, ⟨_, r, xs, rfl, hx, hc⟩, fun _ => ?_, fun z => Bool.noConfusion z⟩
      refine ⟨_, rfl, m.p, _, m.dx, _, _, rfl, M.hp, T.clM, T.nCount, mf_count, _, _, rfl, rfl, m.dx, _, M.hp, (by unfold mf; show 5 < 1000; decide), ?_⟩
      rw [mf_put_count]
      obtain ⟨rs, hrs, hrl⟩ := M.hrows
      obtain ⟨p1, p2, p3, p4, p5, p6⟩ := M.parts
      refine ⟨_, rfl, m.p, _, m.dx, _, _, rfl, upd_same, T.clM, T.nRows, mf_rows, .inl ⟨rfl, _, SqL.of (by rw [upd_ne p2.symm]; exact hrs)⟩, _, rfl, m.p, _, m.dx, _, _, rfl, upd_same, T.clM, T.nCount, mf_count, _, rfl, _, rfl, le_line (by simp), fun q hq1 => ?_⟩
      have hq0 : H q = none := by
        rw [upd_ne] at hq1
        · exact hq1
        · intro z; subst z; rw [upd_same] at hq1; cases hq1
      obtain ⟨MB, SB⟩ := M.bump (xs := [.int ((n + 1 : Nat) : Int), .int (u : Int), .ref r]) hrs hrl hq0
      refine ⟨m.rows, _, _, rfl, rfl, (by rw [upd_ne (ne_of_none hrs hq0), upd_ne p2.symm]; exact hrs), lt_line (by omega), ?_⟩
      generalize hH3 : upd (upd (upd H m.p (.ins T.CM m.dx (mf m.ly (n + 1) m.rows m.co.tr m.co.nt))) q (.tup [.int ((n + 1 : Nat) : Int), .int (u : Int), .ref r])) m.rows (.lst (rs ++ [.ref q])) = H3 at MB SB ⊢
      refine ⟨_, rfl, m.p, m.dx, _, rfl, MB.hp, mf_no (by decide +kernel), _, rfl, _, rfl, m, st, n + 1, u, r, rq, rfl, MB, W.mono (by omega), hu, hq.to SB.tups, ho, fun v H4 dv A => ?_⟩
      obtain ⟨m', e', M', S'⟩ := A
      have hpm : H4 m.p = some (.ins T.CM m'.dx (mf m'.ly (n + 1) m'.rows m'.co.tr m'.co.nt)) := by rw [← e']; exact M'.hp
      refine ⟨_, rfl, m.p, _, m'.dx, _, _, rfl, hpm, T.clM, T.nCount, mf_count, le_line (by simp), fun p hp => ?_⟩
      have sm : Same H4 (upd H4 p (.tup [v, .int ((n + 1 : Nat) : Int)])) := same_new hp
      exact kk v p _ (dv.to (Tups.of_same sm)) ⟨m', e', M'.same sm, (SB.trans S').trans (Step.same sm)⟩ upd_same
/-! ### peek, lasting, trail -/
theorem scPeek : FnScope ["self", "cell"] ["self", "cell"] (defScope sPeek) := ⟨rfl, rfl, rfl, by decide +kernel, rfl, by decide +kernel, by decide +kernel⟩
def spPeek (CM CL : Addr) (lo : Nat) (f : List PyData → PyData) : Sp := fun vs H Q _ => ∃ (m : MA) (s : MS) (n c : Nat), vs = [.ref m.p, .int (c : Int)] ∧ MemAt CM CL H m s n ∧ WF s 1000 ∧ lo ≤ c ∧ c < 13 ∧
  ∀ v, Dt H v (f (s.tr.getD c [])) → Q v H
theorem ok_peek (T : Txt w K mg) : FnOk P w K mg base CX0 3 T.peek.f T.peek.fd ["self", "cell"] (spPeek T.CM T.CL 0 lastD) := by
  have GC : FnOk P w K mg base (L2.CX P w) 2 T.checkCell.f T.checkCell.fd ["self", "cell"] _ := ok_checkCell T
  refine T.peek.F.ok scPeek (fun vs H Q E h => ?_) (fun cdv A outer s H vs Q E hr h => ?_)
  · obtain ⟨m, s, n, c, rfl, _⟩ := h
    rfl
  · obtain ⟨m, st, n, c, rfl, M, W, _, hc, kk⟩ := h
    refine ⟨_, pss_cons (ps_expr (pe_meth (pv 0) T.clM T.checkCell.m GC hr T.checkCell.b .nil passL (pa_cons (pv 1) pa_nil)))
      (pss_one (ps_ret (pe_ix ix_list (pe_ix ix_list (pe_fld (pv 0) rfl) (pv 1) (fun _ _ => rfl)) (pe_un un_neg pe_int) (fun _ _ => rfl)))), ?_⟩
    have hi : c < st.tr.length := by rw [W.tl]; exact hc
    obtain ⟨a, ha, _, xs, hx2, dx⟩ := M.co.ms_at hi
    obtain ⟨v, hv, dv⟩ := dx.last (W.ne _ (W.at_mem hc))
    have ec : true = decide ((0 : Int) ≤ (c : Int) ∧ (c : Int) < 13) := (decide_eq_true ⟨by omega, by omega⟩).symm
    refine ⟨_, rfl, m.p, m.dx, _, rfl, M.hp, mf_no (by decide +kernel), _, rfl, m, st, n, _, true, rfl, M, W.tl, ⟨(c : Int), rfl, ec⟩, fun _ => ?_, fun z => Bool.noConfusion z⟩
    exact ⟨_, rfl, m.p, _, m.dx, _, _, rfl, M.hp, T.clM, T.nTrails, mf_trails, _, rfl, m.co.tr, _, _, .ref a, rfl, rfl, SqL.of M.co.htr, atI_nat (ref_at ha), _, rfl, a, _, _, v, rfl, rfl, SqL.of hx2, atI_m1 hv, kk v dv⟩
theorem scLasting : FnScope ["self", "cell"] ["self", "cell"] (defScope sLasting) := ⟨rfl, rfl, rfl, by decide +kernel, rfl, by decide +kernel, by decide +kernel⟩
theorem ok_lasting (T : Txt w K mg) : FnOk P w K mg base CX0 5 T.lasting.f T.lasting.fd ["self", "cell"] (spPeek T.CM T.CL 3 fun ds => ds.getD 0 .none) := by
  have GC : FnOk P w K mg base (L2.CX P w) 4 T.checkLasting.f T.checkLasting.fd ["self", "cell"] _ := ok_checkLasting T
  refine T.lasting.F.ok scLasting (fun vs H Q E h => ?_) (fun cdv A outer s H vs Q E hr h => ?_)
  · obtain ⟨m, s, n, c, rfl, _⟩ := h
    rfl
  · obtain ⟨m, st, n, c, rfl, M, W, h3, hc, kk⟩ := h
    refine ⟨_, pss_cons (ps_expr (pe_meth (pv 0) T.clM T.checkLasting.m GC hr T.checkLasting.b .nil passL (pa_cons (pv 1) pa_nil)))
      (pss_one (ps_ret (pe_ix ix_list (pe_ix ix_list (pe_fld (pv 0) rfl) (pv 1) (fun _ _ => rfl)) pe_int (fun _ _ => rfl)))), ?_⟩
    have hi : c < st.tr.length := by rw [W.tl]; exact hc
    obtain ⟨a, ha, _, xs, hx2, dx⟩ := M.co.ms_at hi
    obtain ⟨v, hv, dv⟩ := dx.first (W.ne _ (W.at_mem hc))
    have ec : true = decide ((3 : Int) ≤ (c : Int) ∧ (c : Int) < 13) := (decide_eq_true ⟨by omega, by omega⟩).symm
    refine ⟨_, rfl, m.p, m.dx, _, rfl, M.hp, mf_no (by decide +kernel), _, rfl, m, st, n, _, true, rfl, M, W.tl, ⟨(c : Int), rfl, ec⟩, fun _ => ?_, fun z => Bool.noConfusion z⟩
    exact ⟨_, rfl, m.p, _, m.dx, _, _, rfl, M.hp, T.clM, T.nTrails, mf_trails, _, rfl, m.co.tr, _, _, .ref a, rfl, rfl, SqL.of M.co.htr, atI_nat (ref_at ha), a, _, _, v, rfl, rfl, SqL.of hx2, atI_nat (j := 0) hv, kk v dv⟩
theorem scTrail : FnScope ["self", "cell"] ["self", "cell"] (defScope sTrail) := ⟨rfl, rfl, rfl, by decide +kernel, rfl, by decide +kernel, by decide +kernel⟩
def spTrail (CM CL : Addr) : Sp := fun vs H Q _ => ∃ (m : MA) (s : MS) (n c : Nat), vs = [.ref m.p, .int (c : Int)] ∧ MemAt CM CL H m s n ∧ WF s 1000 ∧ 3 ≤ c ∧ c < 13 ∧
  ∀ xs p, DtAll H xs (s.tr.getD c []) → H p = none → Q (.ref p) (upd H p (.lst xs))
theorem ok_trail (T : Txt w K mg) : FnOk P w K mg base CX0 5 T.trail.f T.trail.fd ["self", "cell"] (spTrail T.CM T.CL) := by
  have GC : FnOk P w K mg base (L2.CX P w) 4 T.checkLasting.f T.checkLasting.fd ["self", "cell"] _ := ok_checkLasting T
  refine T.trail.F.ok scTrail (fun vs H Q E h => ?_) (fun cdv A outer s H vs Q E hr h => ?_)
  · obtain ⟨m, s, n, c, rfl, _⟩ := h
    rfl
  · obtain ⟨m, st, n, c, rfl, M, W, h3, hc, kk⟩ := h
    refine ⟨_, pss_cons (ps_expr (pe_meth (pv 0) T.clM T.checkLasting.m GC hr T.checkLasting.b .nil passL (pa_cons (pv 1) pa_nil)))
      (pss_one (ps_ret (pe_callTy call_list_of (by rfl) T.bList boot_list' (pa_cons (pe_ix ix_list (pe_fld (pv 0) rfl) (pv 1) (fun _ _ => rfl)) pa_nil)))), ?_⟩
    have hi : c < st.tr.length := by rw [W.tl]; exact hc
    obtain ⟨a, ha, _, xs, hx2, dx⟩ := M.co.ms_at hi
    have ec : true = decide ((3 : Int) ≤ (c : Int) ∧ (c : Int) < 13) := (decide_eq_true ⟨by omega, by omega⟩).symm
    refine ⟨_, rfl, m.p, m.dx, _, rfl, M.hp, mf_no (by decide +kernel), _, rfl, m, st, n, _, true, rfl, M, W.tl, ⟨(c : Int), rfl, ec⟩, fun _ => ?_, fun z => Bool.noConfusion z⟩
    exact ⟨_, rfl, m.p, _, m.dx, _, _, rfl, M.hp, T.clM, T.nTrails, mf_trails, _, rfl, m.co.tr, _, _, .ref a, rfl, rfl, SqL.of M.co.htr, atI_nat (ref_at ha), a, _, rfl, .inl (SqL.of hx2), fun l hl => kk xs l dx hl⟩
/-! ### drift -/
theorem scDrift : FnScope ["self", "cell", "steps"] ["self", "cell", "steps"] (defScope sDrift) := ⟨rfl, rfl, rfl, by decide +kernel, rfl, by decide +kernel, by decide +kernel⟩
/-- steps that are refused -/
inductive BadSteps : V → Prop
  | neg {i : Int} : i < 0 → BadSteps (.int i)
  | non : BadSteps .non
  | bl (b : Bool) : BadSteps (.bl b)
def spDrift (CM CL NV : Addr) : Sp := fun vs H Q E => ∃ (m : MA) (s : MS) (n : Nat) (c : Int) (x : V), vs = [.ref m.p, .int c, x] ∧ MemAt CM CL H m s n ∧ WF s 1000 ∧
  ((¬ (3 ≤ c ∧ c < 13) ∧ E (.ref NV) none H) ∨ (3 ≤ c ∧ c < 13 ∧ BadSteps x ∧ E (.ref NV) none H) ∨
   ∃ d k : Nat, c = (d : Int) ∧ x = .int (k : Int) ∧ 3 ≤ d ∧ d < 13 ∧ ∀ H', After CM CL H m (shorten s d k) n H' → Q .non H')
theorem kit_ni {K : PySem.W.Frag} : PySem.W.kitOne K (.type "NoneType") (.type "int") = some false := kit_ty (by decide +kernel)
theorem kit_bi {K : PySem.W.Frag} : PySem.W.kitOne K (.type "bool") (.type "int") = some true := kit_ty (by decide +kernel)
theorem kit_bb {K : PySem.W.Frag} : PySem.W.kitOne K (.type "bool") (.type "bool") = some true := kit_ty (by decide +kernel)
theorem ok_drift (T : Txt w K mg) : FnOk P w K mg base (L2.CX P w) 5 T.drift.f T.drift.fd ["self", "cell", "steps"] (spDrift T.CM T.CL T.NV) := by
  have GC : FnOk P w K mg base (L2.CX P w) 4 T.checkLasting.f T.checkLasting.fd ["self", "cell"] _ := ok_checkLasting T
  have GS : FnOk P w K mg base CX0 1 T.shorten.f T.shorten.fd ["self", "cell", "steps"] _ := ok_shorten T
  refine T.drift.F.okX scDrift (fun vs H Q E h => ?_) (fun cdv A outer s H vs Q E hr h => ?_)
  · obtain ⟨m, s, n, c, x, rfl, _⟩ := h
    rfl
  · obtain ⟨m, st, n, c, x, rfl, M, W, hk⟩ := h
    refine ⟨_, pss_cons (ps_expr (pe_meth (pv 0) T.clM T.checkLasting.m GC hr T.checkLasting.b .nil (passes_call (E := E) (takes_of rfl rfl rfl rfl) fun _ _ _ _ h => h) (pa_cons (pv 1) pa_nil)))
      (pss_cons (ps_if (PW.pt (pw_or (pt_not (pt_val (pe_callB call_isi (by rfl) T.bIsinstance boot_isi (pa_cons (pv 2) (pa_cons (pe_bltn (v := .ty "int") (by rfl) T.bInt boot_int' rfl) pa_nil)))))
          (pw_or (pt_val (pe_callB call_isi (by rfl) T.bIsinstance boot_isi (pa_cons (pv 2) (pa_cons (pe_bltn (v := .ty "bool") (by rfl) T.bBool boot_bool' rfl) pa_nil))))
            (pw_or1 (pt_cmpR op_lt (pv 2) pe_int (nomark _))))))
        (pss_one (ps_raise rfl (takes_of rfl rfl rfl rfl) (pmk_own0 PySem.F.excBase_ValueError T.nv.ex T.gNV T.nv.kp (rs_nv T rfl) rfl))) pss_nil)
      (pss_one (ps_expr (pe_meth (pv 0) T.clM T.shorten.m GS (hr.mono (by decide)) T.shorten.b .nil pass0 (pa_cons (pv 1) (pa_cons (pv 2) pa_nil)))))), ?_⟩
    rcases hk with ⟨hc, hE⟩ | ⟨h3, h13, hb, hE⟩ | ⟨d, k, rfl, rfl, h3, h13, kk⟩
    · exact ⟨_, rfl, m.p, m.dx, _, rfl, M.hp, mf_no (by decide +kernel), _, rfl, m, st, n, _, false, rfl, M, W.tl, ⟨c, rfl, (decide_eq_false hc).symm⟩, fun z => Bool.noConfusion z, fun _ => hE⟩
    · refine ⟨_, rfl, m.p, m.dx, _, rfl, M.hp, mf_no (by decide +kernel), _, rfl, m, st, n, _, true, rfl, M, W.tl, ⟨c, rfl, (decide_eq_true ⟨h3, h13⟩).symm⟩, fun _ => ?_, fun z => Bool.noConfusion z⟩
      cases hb with
      | non =>
        refine ⟨_, rfl, _, _, _, _, false, rfl, .ty "int", .base .non, kit_ni, _, rfl, iteT ?_⟩
        refine iteT ?_
        exact hE
      | bl b =>
        refine ⟨_, rfl, _, _, _, _, true, rfl, .ty "int", .base (.bl b), kit_bi, _, rfl, iteF ?_⟩
        refine ⟨_, rfl, _, _, _, _, true, rfl, .ty "bool", .base (.bl b), kit_bb, _, rfl, iteT ?_⟩
        refine iteT ?_
        exact hE
      | @neg i hi =>
        refine ⟨_, rfl, _, _, _, _, true, rfl, .ty "int", .base (.int i), kit_ii, _, rfl, iteF ?_⟩
        refine ⟨_, rfl, _, _, _, _, false, rfl, .ty "bool", .base (.int i), kit_ib, _, rfl, iteF ?_⟩
        refine ⟨_, rfl, _, _, rfl, rfl, _, rfl, ?_⟩
        rw [decide_eq_true hi]
        refine iteT ?_
        exact hE
    · refine ⟨_, rfl, m.p, m.dx, _, rfl, M.hp, mf_no (by decide +kernel), _, rfl, m, st, n, _, true, rfl, M, W.tl, ⟨(d : Int), rfl, (decide_eq_true ⟨by omega, by omega⟩).symm⟩, fun _ => ?_, fun z => Bool.noConfusion z⟩
      refine ⟨_, rfl, _, _, _, _, true, rfl, .ty "int", .base (.int _), kit_ii, _, rfl, iteF ?_⟩
      refine ⟨_, rfl, _, _, _, _, false, rfl, .ty "bool", .base (.int _), kit_ib, _, rfl, iteF ?_⟩
      refine ⟨_, rfl, _, _, rfl, rfl, _, rfl, ?_⟩
      rw [decide_eq_false (show ¬ (k : Int) < 0 by omega)]
      refine iteF ?_
      exact ⟨_, rfl, m.p, m.dx, _, rfl, M.hp, mf_no (by decide +kernel), _, rfl, _, rfl, m, st, n, d, k, rfl, M, W, h13, fun H' A => kk H' A⟩
/-! ### log -/
theorem scLog : FnScope ["self"] ["self"] (defScope sLog) := ⟨rfl, rfl, rfl, by decide +kernel, rfl, by decide +kernel, by decide +kernel⟩
def spLog (CM CL : Addr) : Sp := fun vs H Q _ => ∃ (m : MA) (s : MS) (n : Nat), vs = [.ref m.p] ∧ MemAt CM CL H m s n ∧ ∀ rs p, rs.length = n → H p = none → Q (.ref p) (upd H p (.lst rs))
theorem ok_log (T : Txt w K mg) : FnOk P w K mg base CX0 1 T.log.f T.log.fd ["self"] (spLog T.CM T.CL) := by
  refine T.log.F.ok scLog (fun vs H Q E h => ?_) (fun cdv A outer s H vs Q E hr h => ?_)
  · obtain ⟨m, s, n, rfl, _⟩ := h
    rfl
  · obtain ⟨m, st, n, rfl, M, kk⟩ := h
    obtain ⟨rs, hrs, hrl⟩ := M.hrows
    exact ⟨_, pss_one (ps_ret (pe_callTy call_list_of (by rfl) T.bList boot_list' (pa_cons (pe_fld (pv 0) rfl) pa_nil))), _, rfl, m.p, _, m.dx, _, _, rfl, M.hp, T.clM, T.nRows, mf_rows, m.rows, _, rfl, .inl (SqL.of hrs), fun l hl => kk rs l hrl hl⟩
end
end DK

/-! no_notes, cut of a Memory. -/
namespace DK
open PySem L2
section
variable {P : Program} {w : World} {K : PySem.W.Frag} {mg : Str → Option Value} {base : Heap}
/-! ### no_notes -/
theorem scNoNotes : FnScope ["self", "_"] ["self"] (defScope sNoNotes) := ⟨rfl, rfl, rfl, by decide +kernel, rfl, by decide +kernel, by decide +kernel⟩
/-- two new dicts in a new list -/
structure New2 (H : Hp) (q d0 d1 : Addr) (H' : Hp) : Prop where
  sm : Same H H'
  fq : H q = none
  f0 : H d0 = none
  f1 : H d1 = none
  ne : d0 ≠ d1
  n0 : d0 ≠ q
  n1 : d1 ≠ q
  hq : H' q = some (.lst [.ref d0, .ref d1])
  h0 : H' d0 = some (.dK [])
  h1 : H' d1 = some (.dK [])
def spNoNotes (CM CL : Addr) : Sp := fun vs H Q _ => ∃ (p dx ly : Addr) (fs : List (Str × V)), vs = [.ref p] ∧ H p = some (.ins CM dx fs) ∧ fs.lookup ("layout" : Str) = some (.ref ly) ∧ LyAt CL H ly ∧
  ∀ q d0 d1 H', New2 H q d0 d1 H' → Q (.ref q) H'
theorem two_of {α : Type} : ∀ {l : List α}, l.length = 2 → ∃ a b, l = [a, b]
  | [a, b], _ => ⟨a, b, rfl⟩
theorem ok_noNotes (T : Txt w K mg) : FnOk P w K mg base CX0 1 T.noNotes.f T.noNotes.fd ["self"] (spNoNotes T.CM T.CL) := by
  refine T.noNotes.F.ok scNoNotes (fun vs H Q E h => ?_) (fun cdv A outer s H vs Q E hr h => ?_)
  · obtain ⟨p, dx, ly, fs, rfl, _⟩ := h
    rfl
  · obtain ⟨p, dx, ly, fs, rfl, hp, hl, ⟨dl, hly⟩, kk⟩ := h
    refine ⟨_, pss_one (ps_ret (pe_lc (own := [("_", 1)]) (g := gName 1) (tt := tYes) rfl scNoNotes.nd (pi_range1 rfl T.bRange (pa_cons (pe_fld (pe_fld (pv 0) rfl) rfl) pa_nil))
      (blkOk_by (N := ["self", "_"]) (sc := defScope sNoNotes) (by decide +kernel)) (fun _ _ _ _ _ => pg_name (i := 1) scNoNotes.nd rfl (Or.inl rfl)) (fun _ _ _ _ _ => pts_nil) (fun _ _ _ _ _ => pe_dnewK))), ?_⟩
    refine ⟨_, rfl, p, _, dx, _, _, rfl, hp, T.clM, T.nLayout, hl, ly, _, dl, _, _, rfl, hly, T.clL, T.nThreads, lf_t, 2, rfl, by decide, by decide, fun D hD => ?_⟩
    refine lc_range (lo := 0) (n := (2 : Int).toNat) (fun i H' => ∃ ds : List Addr, ds.length = i ∧ H' D = some (.lst (ds.map V.ref)) ∧ ds.Nodup ∧ (∀ d ∈ ds, H' d = some (.dK []) ∧ H d = none ∧ d ≠ D) ∧ Same H H')
      ⟨[], rfl, upd_same, List.nodup_nil, fun d hd => by simp at hd, same_new hD⟩ ?_ ?_
    · rintro i H' hi ⟨ds, hlen, hDl, hnd, hall, sm⟩
      refine ⟨rfl, ?_⟩
      intro d hd
      have nd : d ∉ ds := fun z => by rw [(hall d z).1] at hd; cases hd
      have nD : D ≠ d := ne_of_none hDl hd
      refine ⟨ds.map V.ref, by rw [upd_ne nD]; exact hDl, lt_line (by rw [List.length_map, hlen]; have : (2 : Int).toNat = 2 := rfl; omega), ds ++ [d], by rw [List.length_append, hlen]; rfl, ?_, ?_, ?_, ?_⟩
      · rw [upd_same, List.map_append]; rfl
      · rw [List.nodup_append]
        refine ⟨hnd, by simp, fun a ha b hb => ?_⟩
        have eb : b = d := by simpa using hb
        subst eb
        intro e; subst e; exact nd ha
      · intro a ha
        rcases List.mem_append.mp ha with hm | hm
        · obtain ⟨h1, h2, h3⟩ := hall a hm
          refine ⟨?_, h2, h3⟩
          rw [upd_ne h3, upd_ne (fun e => nd (by rw [← e]; exact hm))]
          exact h1
        · have ea : a = d := by simpa using hm
          subst ea
          exact ⟨by rw [upd_ne nD.symm, upd_same], sm.free hd, nD.symm⟩
      · intro b o e
        have e' := sm b o e
        rw [upd_ne, upd_ne (ne_of_none e' hd)]
        · exact e'
        · intro z; subst z; rw [hD] at e; cases e
    · rintro H' ⟨ds, hlen, hDl, hnd, hall, sm⟩
      obtain ⟨d0, d1, rfl⟩ := two_of (show ds.length = 2 from hlen)
      obtain ⟨a1, a2, a3⟩ := hall d0 (by simp)
      obtain ⟨b1, b2, b3⟩ := hall d1 (by simp)
      refine kk D d0 d1 H' ⟨sm, hD, a2, b2, ?_, a3, b3, hDl, a1, b1⟩
      intro e
      subst e
      simp at hnd
/-- the notes of a memory are made anew -/
theorem MemAt.newNotes {CM CL : Addr} {H H1 : Hp} {m : MA} {s : MS} {n : Nat} {q d0 d1 : Addr} (M : MemAt CM CL H m s n) (N : New2 H q d0 d1 H1) :
    MemAt CM CL (upd H1 m.p (.ins CM m.dx (mf m.ly n m.rows m.co.tr q))) { m with co := { m.co with nt := q, ns := [d0, d1] } } { s with nt := [[], []] } n ∧
      Step H m.fp (upd H1 m.p (.ins CM m.dx (mf m.ly n m.rows m.co.tr q))) ({ m with co := { m.co with nt := q, ns := [d0, d1] } } : MA).fp := by
  obtain ⟨p1, p2, p3, p4, p5, p6⟩ := M.parts
  obtain ⟨c1, c2, c3, c4, c5, c6, c7, c8⟩ := M.co.parts
  obtain ⟨rs, hrs, hrl⟩ := M.hrows
  have fq := M.fresh N.fq
  have f0 := M.fresh N.f0
  have f1 := M.fresh N.f1
  have nem : ∀ b, b ∉ m.fp → b ≠ m.p := fun b hb e => hb (by rw [e]; exact List.mem_cons_self)
  have inms : ∀ b ∈ m.co.ms, b ∈ m.fp := fun b hb => MA.sub (by unfold Co.fp; exact List.mem_cons_of_mem _ (List.mem_cons_of_mem _ (List.mem_append_left _ hb)))
  have tp : Tups H (upd H1 m.p (.ins CM m.dx (mf m.ly n m.rows m.co.tr q))) := fun b xs e => by
    rw [upd_ne (ne_of e M.hp (by intro z; cases z))]; exact N.sm b _ e
  refine ⟨⟨?_, upd_same, ?_, ⟨rs, ?_, hrl⟩, ⟨?_, ?_, ?_, M.co.lm, rfl, fun i a ha => ?_, fun i a ha => ?_⟩⟩, ⟨fun b o e hb => ?_, fun b hb => ?_, tp⟩⟩
  · show (m.p :: m.ly :: m.rows :: m.co.tr :: q :: (m.co.ms ++ [d0, d1])).Nodup
    have hfp : ∀ b, b ∉ m.fp → b ≠ m.p ∧ b ≠ m.ly ∧ b ≠ m.rows ∧ b ≠ m.co.tr ∧ b ∉ m.co.ms := fun b hb => by
      unfold MA.fp Co.fp at hb
      simp only [List.mem_cons, List.mem_append, not_or] at hb
      exact ⟨hb.1, hb.2.1, hb.2.2.1, hb.2.2.2.1, hb.2.2.2.2.2.1⟩
    obtain ⟨q1, q2, q3, q4, q5⟩ := hfp q fq
    obtain ⟨r1, r2, r3, r4, r5⟩ := hfp d0 f0
    obtain ⟨s1, s2, s3, s4, s5⟩ := hfp d1 f1
    have tm : ∀ x, x ∉ m.co.fp → x ≠ m.co.tr ∧ x ∉ m.co.ms := fun x hx => by
      unfold Co.fp at hx
      simp only [List.mem_cons, List.mem_append, not_or] at hx
      exact ⟨hx.1, hx.2.2.1⟩
    obtain ⟨t1, t2⟩ := tm _ p4
    obtain ⟨t3, t4⟩ := tm _ p5
    obtain ⟨t5, t6⟩ := tm _ p6
    simp only [List.nodup_cons, List.mem_cons, List.mem_append, List.not_mem_nil, or_false, not_or]
    refine ⟨⟨p1, p2, t1, q1.symm, t2, r1.symm, s1.symm⟩, ⟨p3, t3, q2.symm, t4, r2.symm, s2.symm⟩, ⟨t5, q3.symm, t6, r3.symm, s3.symm⟩, ⟨q4.symm, c2, r4.symm, s4.symm⟩, ⟨q5, N.n0.symm, N.n1.symm⟩, ?_⟩
    rw [List.nodup_append]
    refine ⟨c6, by simp [N.ne], fun a ha b hb e => ?_⟩
    subst e
    have hb' : a = d0 ∨ a = d1 := by simpa using hb
    rcases hb' with e | e
    · subst e; exact r5 ha
    · subst e; exact s5 ha
  · rw [upd_ne p1.symm]; exact N.sm _ _ M.hly
  · rw [upd_ne p2.symm]; exact N.sm _ _ hrs
  · show (m.co.tr :: q :: (m.co.ms ++ [d0, d1])).Nodup
    have hfp : ∀ b, b ∉ m.fp → b ≠ m.co.tr ∧ b ∉ m.co.ms := fun b hb => by
      unfold MA.fp Co.fp at hb
      simp only [List.mem_cons, List.mem_append, not_or] at hb
      exact ⟨hb.2.2.2.1, hb.2.2.2.2.2.1⟩
    obtain ⟨q4, q5⟩ := hfp q fq
    obtain ⟨r4, r5⟩ := hfp d0 f0
    obtain ⟨s4, s5⟩ := hfp d1 f1
    simp only [List.nodup_cons, List.mem_cons, List.mem_append, List.not_mem_nil, or_false, not_or]
    refine ⟨⟨q4.symm, c2, r4.symm, s4.symm⟩, ⟨q5, N.n0.symm, N.n1.symm⟩, ?_⟩
    rw [List.nodup_append]
    refine ⟨c6, by simp [N.ne], fun a ha b hb e => ?_⟩
    subst e
    have hb' : a = d0 ∨ a = d1 := by simpa using hb
    rcases hb' with e | e
    · subst e; exact r5 ha
    · subst e; exact s5 ha
  · show upd H1 m.p _ m.co.tr = some (.lst (m.co.ms.map .ref))
    rw [upd_ne (ne_of M.co.htr M.hp (by intro z; cases z))]; exact N.sm _ _ M.co.htr
  · show upd H1 m.p _ q = some (.lst ([d0, d1].map .ref))
    rw [upd_ne (nem q fq)]; exact N.hq
  · obtain ⟨xs, h, d⟩ := M.co.hm i a ha
    refine ⟨xs, ?_, d.to tp⟩
    rw [upd_ne (ne_of h M.hp (by intro z; cases z))]; exact N.sm _ _ h
  · have ha' : [d0, d1][i]? = some a := ha
    match i, ha' with
    | 0, e =>
      cases e
      show upd H1 m.p _ d0 = some (.dK (kv []))
      rw [upd_ne (nem d0 f0)]; exact N.h0
    | 1, e =>
      cases e
      show upd H1 m.p _ d1 = some (.dK (kv []))
      rw [upd_ne (nem d1 f1)]; exact N.h1
    | j + 2, e => cases e
  · rw [upd_ne]
    · exact N.sm b o e
    · intro z; subst z; exact hb List.mem_cons_self
  · have hb' : b ∈ m.p :: m.ly :: m.rows :: m.co.tr :: q :: (m.co.ms ++ [d0, d1]) := hb
    unfold MA.fp Co.fp
    simp only [List.mem_cons, List.mem_append, List.not_mem_nil, or_false] at hb' ⊢
    rcases hb' with e | e | e | e | e | e | e | e
    · exact .inl (.inl e)
    · exact .inl (.inr (.inl e))
    · exact .inl (.inr (.inr (.inl e)))
    · exact .inl (.inr (.inr (.inr (.inl e))))
    · exact .inr (by rw [e]; exact N.fq)
    · exact .inl (.inr (.inr (.inr (.inr (.inr (.inl e))))))
    · exact .inr (by rw [e]; exact N.f0)
    · exact .inr (by rw [e]; exact N.f1)
end
end DK

/-! cut of a Memory. -/
namespace DK
open PySem L2
/-- the first i trails are [None] -/
def wipeN (tr : List (List PyData)) (i : Nat) : List (List PyData) := (List.range i).foldl (fun t j => t.set j [PyData.none]) tr
theorem wipeN_succ (tr : List (List PyData)) (i : Nat) : wipeN tr (i + 1) = (wipeN tr i).set i [.none] := by
  unfold wipeN
  rw [List.range_succ, List.foldl_append]; rfl
theorem wipeN_length (tr : List (List PyData)) : ∀ i, (wipeN tr i).length = tr.length
  | 0 => rfl
  | i + 1 => by rw [wipeN_succ, List.length_set, wipeN_length tr i]
theorem wipe3_eq (s : MS) : ({ tr := (wipeN s.tr 3).set 0 [.int 0], nt := [[], []] } : MS) = wipe3 s := by
  unfold wipe3
  congr 1
  rw [wipeN_succ, wipeN_succ, wipeN_succ]
  show (((s.tr.set 0 [PyData.none]).set 1 [.none]).set 2 [.none]).set 0 [.int 0] = _
  rw [List.set_comm _ _ (show (2 : Nat) ≠ 0 by decide), List.set_comm _ _ (show (1 : Nat) ≠ 0 by decide), List.set_set]
theorem cutTurn_at (ch : List Nat) (s : MS) (i : Nat) : cutTurn ch s (3 + i) = match ch[i]? with
    | some k => { shorten s (3 + i) k with tr := (shorten s (3 + i) k).tr.set (3 + i) (((shorten s (3 + i) k).tr.getD (3 + i) []).take 1) }
    | none => { s with tr := s.tr.set (3 + i) ((s.tr.getD (3 + i) []).take 1) } := by
  unfold cutTurn
  rw [show 3 + i - 3 = i by omega]
  cases ch[i]? <;> rfl
/-- choices: refused, or a list of numbers -/
def goodC (v : V) : Prop := ∃ k : Nat, v = .int (k : Int)
inductive BadC : V → Prop
  | neg {i : Int} : i < 0 → BadC (.int i)
  | bl (b : Bool) : BadC (.bl b)
inductive CutArg (H : Hp) : V → Option (List Nat) → Prop
  | non : CutArg H .non none
  | tup {a : Addr} {xs : List V} : H a = some (.tup xs) → CutArg H (.ref a) none
  | bad {a : Addr} {xs : List V} : H a = some (.lst xs) → (∀ v ∈ xs, goodC v ∨ BadC v) → (∃ v ∈ xs, BadC v) → CutArg H (.ref a) none
  | good {a : Addr} {ch : List Nat} : H a = some (.lst (ch.map fun k : Nat => V.int (k : Int))) → CutArg H (.ref a) (some ch)
theorem not_both {v : V} (h : goodC v) (b : BadC v) : False := by
  obtain ⟨k, rfl⟩ := h
  cases b with
  | neg h => omega
section
variable {P : Program} {w : World} {K : PySem.W.Frag} {mg : Str → Option Value} {base : Heap}
theorem scCut : FnScope ["self", "choices", "choice", "first", "cell"] ["self", "choices"] (defScope sCut) := ⟨rfl, rfl, rfl, by decide +kernel, rfl, by decide +kernel, by decide +kernel⟩
def spCut (CM CL NV : Addr) : Sp := fun vs H Q E => ∃ (m : MA) (s : MS) (n : Nat) (x : V) (o : Option (List Nat)), vs = [.ref m.p, x] ∧ MemAt CM CL H m s n ∧ CutArg H x o ∧ WF s 1000 ∧
  (o = none → E (.ref NV) none H) ∧ ∀ ch a, o = some ch → x = .ref a → a ∉ m.fp ∧ ∀ H', After CM CL H m (cut s ch) n H' → Q .non H'
/-- self.trails[c] = self.trails[c][:1] -/
theorem rd_take1 {CM CL : Addr} {H : Hp} {m : MA} {s : MS} {n c i : Nat} {σ : St} {D : Ends} (cl : Cls K CM) (nT : NoAttr K CM "trails") (M : MemAt CM CL H m s n) (hc : c < s.tr.length) (hl : (s.tr.getD c []) ≠ [])
    (h0 : σ[0]? = some (some (.ref m.p))) (hi : σ[i]? = some (some (.int (c : Int))))
    (k : ∀ H', After CM CL H m { s with tr := s.tr.set c ((s.tr.getD c []).take 1) } n H' → D.nx σ H') :
    tAsg (tSl (rSlL K) (tOp (rIxL K) (tFld K (tVar 0) "trails") (tVar i)) tNoPart (tPart (tC (.int 1)))) (gSub (tFld K (tVar 0) "trails") (tVar i) rSetL) D σ H := by
  obtain ⟨a, ha, _, xs, hx, dx⟩ := M.co.ms_at hc
  have hlen : 1 ≤ xs.length := by rw [dx.length]; exact List.length_pos_iff.mpr hl
  refine ⟨_, h0, m.p, _, m.dx, _, _, rfl, M.hp, cl, nT, mf_trails, _, hi, m.co.tr, _, _, .ref a, rfl, rfl, SqL.of M.co.htr, atI_nat (ref_at ha), 1, rfl, a, _, rfl, SqL.of hx, fun p hp => ?_⟩
  rw [show (some (1 : Int) : Option Int) = some ((1 : Nat) : Int) from rfl, cut_take hlen]
  have np : m.p ≠ p := ne_of_none M.hp hp
  obtain ⟨C1, S1⟩ := M.co.setNew (xs := xs.take 1) (ds := (s.tr.getD c []).take 1) hc hp (dx.take _)
  obtain ⟨M1, S1⟩ := M.inner C1 S1 rfl rfl
  refine ⟨_, h0, m.p, _, m.dx, _, _, rfl, (by rw [upd_ne np]; exact M.hp), cl, nT, mf_trails, _, hi, m.co.tr, _, _, c, rfl, rfl, (by rw [upd_ne (ne_of_none M.co.htr hp)]; exact M.co.htr), ixN_nat (by rw [List.length_map, M.co.lm]; exact hc), ?_⟩
  exact k _ ⟨{ m with co := { m.co with ms := m.co.ms.set c p } }, rfl, M1, S1⟩
theorem kit_ll {K : PySem.W.Frag} : PySem.W.kitOne K (.type "list") (.type "list") = some true := kit_ty (by decide +kernel)
theorem kit_tl {K : PySem.W.Frag} : PySem.W.kitOne K (.type "tuple") (.type "list") = some false := kit_ty (by decide +kernel)
theorem kit_nl {K : PySem.W.Frag} : PySem.W.kitOne K (.type "NoneType") (.type "list") = some false := kit_ty (by decide +kernel)
theorem ok_cut (T : Txt w K mg) : FnOk P w K mg base (L2.CX P w) 4 T.cut.f T.cut.fd ["self", "choices"] (spCut T.CM T.CL T.NV) := by
  have GS : FnOk P w K mg base CX0 1 T.shorten.f T.shorten.fd ["self", "cell", "steps"] _ := ok_shorten T
  have GC : FnOk P w K mg base CX0 1 T.callSlot.f T.callSlot.fd ["self", "thread"] _ := ok_callSlot T
  have GE : FnOk P w K mg base CX0 1 T.epoch.f T.epoch.fd ["self"] _ := ok_epoch T
  have GN : FnOk P w K mg base CX0 2 T.cells.f T.cells.fd ["self"] _ := ok_cells T
  have GO : FnOk P w K mg base CX0 1 T.noNotes.f T.noNotes.fd ["self"] _ := ok_noNotes T
  refine T.cut.F.okX scCut (fun vs H Q E h => ?_) (fun cdv A outer s H vs Q E hr h => ?_)
  · obtain ⟨m, s, n, x, o, rfl, _⟩ := h
    rfl
  · obtain ⟨m, st, n, x, o, rfl, M, hx, W, hE, hQ⟩ := h
    have hr1 : Room 1 _ := hr.mono (by decide)
    refine ⟨_, pss_cons (ps_if (pt_not (pt_val (pe_callB call_isi (by rfl) T.bIsinstance boot_isi (pa_cons (pv 1) (pa_cons (pe_bltn (v := .ty "list") (by rfl) T.bList boot_list' rfl) pa_nil)))))
        (pss_one (ps_raise rfl (takes_of rfl rfl rfl rfl) (pmk_own0 PySem.F.excBase_ValueError T.nv.ex T.gNV T.nv.kp (rs_nv T rfl) rfl))) pss_nil)
      (pss_cons (ps_for (passes_of rfl) rfl (pi_list (pv 1)) (pg_name (i := 2) scCut.nd rfl (Or.inl rfl))
        (pss_one (ps_if (PW.pt (pw_or (pt_not (pt_val (pe_callB call_isi (by rfl) T.bIsinstance boot_isi (pa_cons (pv 2) (pa_cons (pe_bltn (v := .ty "int") (by rfl) T.bInt boot_int' rfl) pa_nil)))))
          (pw_or (pt_val (pe_callB call_isi (by rfl) T.bIsinstance boot_isi (pa_cons (pv 2) (pa_cons (pe_bltn (v := .ty "bool") (by rfl) T.bBool boot_bool' rfl) pa_nil))))
            (pw_or1 (pt_cmpR op_lt (pv 2) pe_int (nomark _))))))
          (pss_one (ps_raise rfl (takes_of rfl rfl rfl rfl) (pmk_own0 PySem.F.excBase_ValueError T.nv.ex T.gNV T.nv.kp (rs_nv T rfl) rfl))) pss_nil)))
      (pss_cons (ps_set (i := 3) scCut.nd rfl (Or.inl rfl) (pe_meth (pe_fld (pv 0) rfl) T.clL T.callSlot.m GC hr1 T.callSlot.b .nil pass0 (pa_cons pe_int pa_nil)))
      (pss_cons (ps_for (passes_of rfl) rfl (pi_range2 (by rfl) T.bRange (pa_cons (pv 3) (pa_cons (pe_meth0 (pe_fld (pv 0) rfl) T.clL T.cells.m GN (hr.mono (by decide)) T.cells.b .nil pass0) pa_nil))) (pg_name (i := 4) scCut.nd rfl (Or.inl rfl))
        (pss_cons (ps_if (pt_cmpR op_lt (pe_op op_sub (pv 4) (pv 3)) (pe_callB call_len_seq (by rfl) T.bLen PySem.boot_len (pa_cons (pv 1) pa_nil)) (nomark _))
          (pss_one (ps_expr (pe_meth (pv 0) T.clM T.shorten.m GS hr1 T.shorten.b .nil pass0 (pa_cons (pv 4) (pa_cons (pe_ix ix_list (pv 1) (pe_op op_sub (pv 4) (pv 3)) (fun _ _ => rfl)) pa_nil))))) pss_nil)
        (pss_one (ps_asg (pe_slice sl_list (pe_ix ix_list (pe_fld (pv 0) rfl) (pv 4) (fun _ _ => rfl)) po_none (po_some pe_int)) (pg_sub (pe_fld (pv 0) rfl) (pv 4) set_list)))))
      (pss_cons (ps_for (passes_of rfl) rfl (pi_range1 rfl T.bRange (pa_cons (pv 3) pa_nil)) (pg_name (i := 4) scCut.nd rfl (Or.inl rfl))
        (pss_one (ps_asg (pe_lst (pa_cons pe_non pa_nil)) (pg_sub (pe_fld (pv 0) rfl) (pv 4) set_list))))
      (pss_cons (ps_asg (pe_lst (pa_cons pe_int pa_nil)) (pg_sub (pe_fld (pv 0) rfl) (pe_meth0 (pe_fld (pv 0) rfl) T.clL T.epoch.m GE hr1 T.epoch.b .nil pass0) set_list))
      (pss_one (ps_fld (pv 0) (pe_meth0 (pv 0) T.clM T.noNotes.m GO hr1 T.noNotes.b .nil pass0) rfl))))))), ?_⟩
    cases hx with
    | non =>
      refine ⟨_, rfl, _, _, _, _, false, rfl, .ty "list", .base .non, kit_nl, _, rfl, ?_⟩
      refine iteT ?_
      exact hE rfl
    | @tup a xs hx =>
      refine ⟨_, rfl, _, _, _, _, false, rfl, .ty "list", .base (.tup hx), kit_tl, _, rfl, ?_⟩
      refine iteT ?_
      exact hE rfl
    | @bad a xs hx hall hbad =>
      refine ⟨_, rfl, _, _, _, _, true, rfl, .ty "list", .base (.lst hx), kit_ll, _, rfl, ?_⟩
      refine iteF ?_
      refine ⟨_, rfl, a, rfl, ⟨_, SqL.of hx⟩, for_list (K := K) (a := a) (xs := xs) (fun i σ H' => ∃ v : Option V, σ = [some (.ref m.p), some (.ref a), v, none, none] ∧ H = H' ∧ ∀ j, j < i → ∀ u, xs[j]? = some u → goodC u)
        ⟨none, rfl, rfl, fun j hj => absurd hj (Nat.not_lt_zero _)⟩ (fun i σ H' _ ⟨_, _, e, _⟩ => by rw [← e]; exact SqL.of hx) ?_ ?_⟩
      · rintro i y σ H' hi ⟨v, rfl, rfl, hg⟩
        rcases hall y (List.mem_of_getElem? hi) with ⟨k, rfl⟩ | hb
        · refine ⟨_, rfl, _, _, _, _, true, rfl, .ty "int", .base (.int _), kit_ii, _, rfl, iteF ?_⟩
          refine ⟨_, rfl, _, _, _, _, false, rfl, .ty "bool", .base (.int _), kit_ib, _, rfl, iteF ?_⟩
          refine ⟨_, rfl, _, _, rfl, rfl, _, rfl, ?_⟩
          rw [decide_eq_false (show ¬ (k : Int) < 0 by omega)]
          refine iteF ?_
          refine ⟨_, rfl, rfl, fun j hj u hu => ?_⟩
          by_cases e : j = i
          · subst e; rw [hi] at hu; cases hu; exact ⟨k, rfl⟩
          · exact hg j (by omega) u hu
        · cases hb with
          | bl b =>
            refine ⟨_, rfl, _, _, _, _, true, rfl, .ty "int", .base (.bl b), kit_bi, _, rfl, iteF ?_⟩
            refine ⟨_, rfl, _, _, _, _, true, rfl, .ty "bool", .base (.bl b), kit_bb, _, rfl, iteT ?_⟩
            refine iteT ?_
            exact hE rfl
          | @neg z hz =>
            refine ⟨_, rfl, _, _, _, _, true, rfl, .ty "int", .base (.int z), kit_ii, _, rfl, iteF ?_⟩
            refine ⟨_, rfl, _, _, _, _, false, rfl, .ty "bool", .base (.int z), kit_ib, _, rfl, iteF ?_⟩
            refine ⟨_, rfl, _, _, rfl, rfl, _, rfl, ?_⟩
            rw [decide_eq_true hz]
            refine iteT ?_
            exact hE rfl
      · rintro σ H' ⟨v, rfl, rfl, hg⟩
        obtain ⟨u, hu, hb⟩ := hbad
        obtain ⟨j, hj⟩ := List.getElem?_of_mem hu
        exact (not_both (hg j (List.getElem?_eq_some_iff.mp hj).1 u hj) hb).elim
    | @good a ch hx =>
      obtain ⟨han, kk⟩ := hQ ch a rfl rfl
      refine ⟨_, rfl, _, _, _, _, true, rfl, .ty "list", .base (.lst hx), kit_ll, _, rfl, ?_⟩
      refine iteF ?_
      refine ⟨_, rfl, a, rfl, ⟨_, SqL.of hx⟩, for_list (K := K) (a := a) (xs := ch.map fun k : Nat => V.int (k : Int)) (fun i σ H' => ∃ v : Option V, σ = [some (.ref m.p), some (.ref a), v, none, none] ∧ H = H')
        ⟨none, rfl, rfl⟩ (fun i σ H' _ ⟨_, _, e⟩ => by rw [← e]; exact SqL.of hx) ?_ ?_⟩
      · rintro i y σ H' hi ⟨v, rfl, rfl⟩
        obtain ⟨k, rfl⟩ : goodC y := by
          obtain ⟨k, hk, e⟩ := List.mem_map.mp (List.mem_of_getElem? hi)
          exact ⟨k, e.symm⟩
        refine ⟨_, rfl, _, _, _, _, true, rfl, .ty "int", .base (.int _), kit_ii, _, rfl, iteF ?_⟩
        refine ⟨_, rfl, _, _, _, _, false, rfl, .ty "bool", .base (.int _), kit_ib, _, rfl, iteF ?_⟩
        refine ⟨_, rfl, _, _, rfl, rfl, _, rfl, ?_⟩
        rw [decide_eq_false (show ¬ (k : Int) < 0 by omega)]
        refine iteF ?_
        exact ⟨_, rfl, rfl⟩
      · rintro σ H' ⟨v2, rfl, rfl⟩
        refine ⟨_, rfl, m.p, _, m.dx, _, _, rfl, M.hp, T.clM, T.nLayout, mf_layout, m.ly, m.dl, _, rfl, M.hly, (by decide +kernel), m.ly, 0, rfl, ⟨m.dl, M.hly⟩, ?_⟩
        refine ⟨_, rfl, _, rfl, m.p, _, m.dx, _, _, rfl, M.hp, T.clM, T.nLayout, mf_layout, m.ly, m.dl, _, rfl, M.hly, (by decide +kernel), m.ly, rfl, ⟨m.dl, M.hly⟩, 3, 13, rfl, ⟨by decide, by decide, by decide, by decide⟩, ?_⟩
        refine for_range (lo := 3) (n := ((13 : Int) - 3).toNat) (fun i σ H' => ∃ (v : Option V) (m' : MA), σ = [some (.ref m.p), some (.ref a), v2, some (.int 3), v] ∧ m'.p = m.p ∧ MemAt T.CM T.CL H' m' (cutLoop ch st i) n ∧ Step H m.fp H' m'.fp ∧
            H' a = some (.lst (ch.map fun k : Nat => V.int (k : Int))) ∧ a ∉ m'.fp)
          ⟨none, m, rfl, rfl, M, Step.refl _ _, hx, han⟩ ?_ ?_
        · rintro i σ H' hi ⟨v, m', rfl, ep, M', S', ha', hn'⟩
          have hi10 : i < 10 := hi
          have W' : WF (cutLoop ch st i) 1000 := W.cutLoop ch i (by omega)
          have hpm : H' m.p = some (.ins T.CM m'.dx (mf m'.ly n m'.rows m'.co.tr m'.co.nt)) := by rw [← ep]; exact M'.hp
          have hlen : (((ch.map fun k : Nat => V.int (k : Int)).length : Nat) : Int) = (ch.length : Int) := by rw [List.length_map]
          refine ⟨_, rfl, _, rfl, _, _, rfl, rfl, _, rfl, a, _, rfl, .inl (SqL.of ha'), _, _, rfl, rfl, _, rfl, ?_⟩
          refine ite2 (fun h1 => ?_) (fun h1 => ?_)
          · have h1' := of_decide_eq_true h1
            have hlt : i < ch.length := by rw [hlen] at h1'; omega
            have hk : ch[i]? = some ch[i] := List.getElem?_eq_getElem hlt
            refine ⟨_, rfl, m.p, m'.dx, _, rfl, hpm, mf_no (by decide +kernel), _, rfl, _, rfl, _, rfl, _, rfl, _, _, rfl, rfl, a, _, _, .int ((ch[i] : Nat) : Int), rfl, rfl, SqL.of ha', ?_, m', cutLoop ch st i, n, 3 + i, ch[i], by rw [ep]; rfl, M', W', by omega, fun H1 A1 => ?_⟩
            · rw [show (3 : Int) + (i : Int) - 3 = (i : Int) by omega]
              exact atI_nat (by rw [List.getElem?_map, hk]; rfl)
            · obtain ⟨m1, e1, M1, S1⟩ := A1
              obtain ⟨ha1, hn1⟩ := S1.out ha' hn'
              have W1 : WF (shorten (cutLoop ch st i) (3 + i) ch[i]) 1000 := W'.shorten (by omega) _
              refine rd_take1 (c := 3 + i) T.clM T.nTrails M1 (by rw [W1.tl]; omega) (W1.ne _ (W1.at_mem (by omega))) (by rw [e1, ep]; rfl) rfl fun H2 A2 => ?_
              obtain ⟨m2, e2, M2, S2⟩ := A2
              obtain ⟨ha2, hn2⟩ := S2.out ha1 hn1
              refine ⟨_, m2, rfl, e2.trans (e1.trans ep), ?_, (S'.trans S1).trans S2, ha2, hn2⟩
              rw [cutLoop_succ, cutTurn_at, hk]
              exact M2
          · have h1' : ¬ ((3 : Int) + (i : Int) - 3 < (((ch.map fun k : Nat => V.int (k : Int)).length : Nat) : Int)) := fun q => h1 (decide_eq_true q)
            have hge : ch.length ≤ i := by rw [hlen] at h1'; omega
            have hk : ch[i]? = none := List.getElem?_eq_none hge
            refine rd_take1 (c := 3 + i) T.clM T.nTrails M' (by rw [W'.tl]; omega) (W'.ne _ (W'.at_mem (by omega))) (by rw [ep]; rfl) rfl fun H2 A2 => ?_
            obtain ⟨m2, e2, M2, S2⟩ := A2
            obtain ⟨ha2, hn2⟩ := S2.out ha' hn'
            refine ⟨_, m2, rfl, e2.trans ep, ?_, S'.trans S2, ha2, hn2⟩
            rw [cutLoop_succ, cutTurn_at, hk]
            exact M2
        · rintro σ H2 ⟨v, m', rfl, ep, M', S', ha', hn'⟩
          have M' : MemAt T.CM T.CL H2 m' (cutLoop ch st 10) n := M'
          have W' : WF (cutLoop ch st 10) 1000 := W.cutLoop ch 10 (Nat.le_refl _)
          refine ⟨_, rfl, 3, rfl, by decide, by decide, ?_⟩
          refine for_range (lo := 0) (n := (3 : Int).toNat) (fun i σ H' => ∃ (v : Option V) (m' : MA), σ = [some (.ref m.p), some (.ref a), v2, some (.int 3), v] ∧ m'.p = m.p ∧ MemAt T.CM T.CL H' m' { cutLoop ch st 10 with tr := wipeN (cutLoop ch st 10).tr i } n ∧ Step H m.fp H' m'.fp)
            ⟨v, m', rfl, ep, M', S'⟩ ?_ ?_
          · rintro i σ H3 hi ⟨v3, m3, rfl, e3, M3, S3⟩
            have hi3 : i < 3 := hi
            have hpm : H3 m.p = some (.ins T.CM m3.dx (mf m3.ly n m3.rows m3.co.tr m3.co.nt)) := by rw [← e3]; exact M3.hp
            have hic : i < ({ cutLoop ch st 10 with tr := wipeN (cutLoop ch st 10).tr i } : MS).tr.length := by show i < (wipeN _ i).length; rw [wipeN_length, W'.tl]; omega
            refine ⟨le_line (by simp), fun p hp => ?_⟩
            have np : m.p ≠ p := ne_of_none hpm hp
            obtain ⟨C4, S4⟩ := M3.co.setNew (xs := [.non]) (ds := [.none]) hic hp (DtAll.one .non)
            obtain ⟨M4, S4⟩ := M3.inner C4 S4 rfl rfl
            refine ⟨_, rfl, m.p, _, m3.dx, _, _, rfl, (by rw [upd_ne np]; exact hpm), T.clM, T.nTrails, mf_trails, _, rfl, m3.co.tr, _, _, i, rfl, rfl, (by rw [upd_ne (ne_of_none M3.co.htr hp)]; exact M3.co.htr), ?_, ?_⟩
            · rw [show (0 : Int) + (i : Int) = (i : Int) by omega]
              exact ixN_nat (by rw [List.length_map, M3.co.lm]; exact hic)
            · refine ⟨_, { m3 with co := { m3.co with ms := m3.co.ms.set i p } }, rfl, e3, ?_, S3.trans S4⟩
              rw [wipeN_succ]
              exact M4
          · rintro σ H3 ⟨v3, m3, rfl, e3, M3, S3⟩
            have M3 : MemAt T.CM T.CL H3 m3 { cutLoop ch st 10 with tr := wipeN (cutLoop ch st 10).tr 3 } n := M3
            have hpm : H3 m.p = some (.ins T.CM m3.dx (mf m3.ly n m3.rows m3.co.tr m3.co.nt)) := by rw [← e3]; exact M3.hp
            have hic : 0 < ({ cutLoop ch st 10 with tr := wipeN (cutLoop ch st 10).tr 3 } : MS).tr.length := by show 0 < (wipeN _ 3).length; rw [wipeN_length, W'.tl]; decide
            refine ⟨le_line (by simp), fun p hp => ?_⟩
            have np : m.p ≠ p := ne_of_none hpm hp
            obtain ⟨C4, S4⟩ := M3.co.setNew (xs := [.int 0]) (ds := [.int 0]) hic hp (DtAll.one (.int 0))
            obtain ⟨M4, S4⟩ := M3.inner C4 S4 rfl rfl
            refine ⟨_, rfl, m.p, _, m3.dx, _, _, rfl, (by rw [upd_ne np]; exact hpm), T.clM, T.nTrails, mf_trails, _, rfl, m.p, _, m3.dx, _, _, rfl, (by rw [upd_ne np]; exact hpm), T.clM, T.nLayout, mf_layout, m3.ly, m3.dl, _, rfl, (by rw [upd_ne (ne_of_none M3.hly hp)]; exact M3.hly), (by decide +kernel), .ref m3.ly, rfl,
              m3.co.tr, _, _, 0, rfl, rfl, (by rw [upd_ne (ne_of_none M3.co.htr hp)]; exact M3.co.htr), ixN_nat (c := 0) (by rw [List.length_map, M3.co.lm]; exact hic), ?_⟩
            generalize hH4 : upd (upd H3 p (.lst [.int 0])) m3.co.tr (.lst ((m3.co.ms.map V.ref).set 0 (.ref p))) = H4 at M4 S4 ⊢
            have hp4 : H4 m.p = some (.ins T.CM m3.dx (mf m3.ly n m3.rows m3.co.tr m3.co.nt)) := by rw [← e3]; exact M4.hp
            refine ⟨_, rfl, m.p, m3.dx, _, rfl, hp4, mf_no (by decide +kernel), m.p, m3.dx, m3.ly, _, rfl, hp4, mf_layout, ⟨m3.dl, M4.hly⟩, fun q d0 d1 H5 N5 => ?_⟩
            refine ⟨_, rfl, m.p, _, m3.dx, _, rfl, N5.sm _ _ hp4, T.clM, T.nNotes, (by unfold mf; show 5 < 1000; decide), ?_⟩
            rw [mf_put_notes]
            obtain ⟨M6, S6⟩ := M4.newNotes N5
            have M6 : MemAt T.CM T.CL (upd H5 m3.p (.ins T.CM m3.dx (mf m3.ly n m3.rows m3.co.tr q))) _ { tr := (wipeN (cutLoop ch st 10).tr 3).set 0 [.int 0], nt := [[], []] } n := M6
            rw [wipe3_eq] at M6
            have A6 : After T.CM T.CL H m (cut st ch) n (upd H5 m3.p (.ins T.CM m3.dx (mf m3.ly n m3.rows m3.co.tr q))) :=
              ⟨{ m3 with co := { { m3.co with ms := m3.co.ms.set 0 p } with nt := q, ns := [d0, d1] } }, e3, M6, (S3.trans S4).trans S6⟩
            rw [e3] at A6
            exact kk _ A6
end
end DK

/-! A new Layout, a new Memory. -/
namespace DK
open PySem L2
section
variable {P : Program} {w : World} {K : PySem.W.Frag} {mg : Str → Option Value} {base : Heap}
/-! ### Layout -/
theorem scLInit : FnScope ["self", "threads", "words", "records"] ["self", "threads", "words", "records"] (defScope sLInit) := ⟨rfl, rfl, rfl, by decide +kernel, rfl, by decide +kernel, by decide +kernel⟩
def spLInit (CL : Addr) : Sp := fun vs H Q _ => ∃ p dx : Addr, vs = [.ref p, .int 2, .int 2, .int 6] ∧ H p = some (.ins CL dx []) ∧ ∀ H', H' p = some (.ins CL dx lf) → (∀ b o, b ≠ p → H b = some o → H' b = some o) → Q .non H'
theorem lf_put : putF "records" (.int 6) (putF "words" (.int 2) (putF "threads" (.int 2) [])) = lf := by decide +kernel
theorem ok_lInit (T : Txt w K mg) : FnOk P w K mg base CX0 2 T.lInit.f T.lInit.fd ["self", "threads", "words", "records"] (spLInit T.CL) := by
  have GW : FnOk P w K mg base CX0 1 T.within.f T.within.fd ["value", "low", "high"] spWithin := ok_within T
  obtain ⟨t1, g1⟩ := T.mThreads
  obtain ⟨t2, g2⟩ := T.mWords
  obtain ⟨t3, g3⟩ := T.lRecords
  obtain ⟨t4, g4⟩ := T.mRecords
  refine T.lInit.F.ok scLInit (fun vs H Q E h => ?_) (fun cdv A outer s H vs Q E hr h => ?_)
  · obtain ⟨p, dx, rfl, _⟩ := h
    rfl
  · obtain ⟨p, dx, rfl, hp, k⟩ := h
    refine ⟨_, pss_cons (ps_if (PW.pt (pw_or (pt_not (pt_val (pe_call GW hr rfl T.within.g T.within.F.kp T.within.b .nil pass0 (pa_cons (pv 1) (pa_cons pe_int (pa_cons (pe_glob (v := .int 3) rfl g1 ⟨_, rfl⟩) pa_nil))))))
          (pw_or1 (pt_not (pt_val (pe_call GW hr rfl T.within.g T.within.F.kp T.within.b .nil pass0 (pa_cons (pv 2) (pa_cons pe_int (pa_cons (pe_glob (v := .int 4) rfl g2 ⟨_, rfl⟩) pa_nil)))))))))
        pss_never pss_nil)
      (pss_cons (ps_if (pt_not (pt_val (pe_call GW hr rfl T.within.g T.within.F.kp T.within.b .nil pass0 (pa_cons (pv 3) (pa_cons (pe_glob (v := .int 4) rfl g3 ⟨_, rfl⟩) (pa_cons (pe_glob (v := .int 200) rfl g4 ⟨_, rfl⟩) pa_nil))))))
        pss_never pss_nil)
      (pss_cons (ps_fld (pv 0) (pv 1) rfl) (pss_cons (ps_fld (pv 0) (pv 2) rfl) (pss_one (ps_fld (pv 0) (pv 3) rfl))))), ?_⟩
    refine ⟨_, rfl, _, _, _, rfl, _, rfl, ?_⟩
    refine iteF ?_
    refine ⟨_, rfl, _, _, _, rfl, _, rfl, ?_⟩
    refine iteF ?_
    refine ⟨_, rfl, _, _, _, rfl, _, rfl, ?_⟩
    refine iteF ?_
    refine ⟨_, rfl, _, rfl, p, _, dx, _, rfl, hp, T.clL, T.nThreads, (by show 0 < 1000; decide), ?_⟩
    refine ⟨_, rfl, _, rfl, p, _, dx, _, rfl, upd_same, T.clL, T.nWords, (by show 1 < 1000; decide), ?_⟩
    refine ⟨_, rfl, _, rfl, p, _, dx, _, rfl, upd_same, T.clL, T.nRecords, (by show 2 < 1000; decide), ?_⟩
    refine k _ ?_ fun b o hb e => ?_
    · rw [upd_same, lf_put]
    · rw [upd_ne hb, upd_ne hb, upd_ne hb]; exact e
/-! ### Memory -/
/-- ("items", ()) -/
def itemsD : PyData := .tuple [.str "items", .tuple []]
def tr0 (i : Nat) : List (List PyData) := (List.range i).foldl (fun t j => (t.set (5 + j) [.int ((7 + j : Nat) : Int)]).set (7 + j) [itemsD]) ((List.replicate 13 [PyData.none]).set 0 [.int 0])
theorem tr0_succ (i : Nat) : tr0 (i + 1) = ((tr0 i).set (5 + i) [.int ((7 + i : Nat) : Int)]).set (7 + i) [itemsD] := by
  unfold tr0
  rw [List.range_succ, List.foldl_append]; rfl
theorem tr0_length : ∀ i, (tr0 i).length = 13
  | 0 => rfl
  | i + 1 => by rw [tr0_succ, List.length_set, List.length_set, tr0_length i]
/-- the state of a new memory -/
def ms0 : MS := { tr := tr0 2, nt := [[], []] }
theorem gd_items : Gd itemsD := by
  refine ⟨?_, by unfold itemsD; simp [PyData.depth, PyData.depthAll]⟩
  show (PyData.strOk ("items" : Str) && (true && true)) = true
  rw [show PyData.strOk ("items" : Str) = true by decide +kernel]; rfl
theorem wf0 : WF ms0 0 := by
  have e : ms0.tr = [[.int 0], [.none], [.none], [.none], [.none], [.int 7], [.int 8], [itemsD], [itemsD], [.none], [.none], [.none], [.none]] := rfl
  have all : ∀ ds ∈ ms0.tr, ∃ d, ds = [d] ∧ Gd d := by
    rw [e]
    intro ds h
    simp only [List.mem_cons, List.not_mem_nil, or_false] at h
    rcases h with h | h | h | h | h | h | h | h | h | h | h | h | h <;> subst h
    all_goals first
      | exact ⟨_, rfl, Gd.none⟩
      | exact ⟨_, rfl, Gd.int _⟩
      | exact ⟨_, rfl, gd_items⟩
  refine ⟨rfl, rfl, fun ds h => ?_, fun ds h => ?_, fun ds h d hd => ?_, fun l h => ?_⟩
  · obtain ⟨d, e, _⟩ := all ds h
    rw [e]; simp
  · obtain ⟨d, e, _⟩ := all ds h
    rw [e]; simp
  · obtain ⟨d', e, g⟩ := all ds h
    rw [e] at hd
    have : d = d' := by simpa using hd
    rw [this]; exact g
  · have : l = [] := by
      have h' : l ∈ [([] : NL), []] := h
      simpa using h'
    rw [this]; exact NOk.nil
theorem scMInit : FnScope ["self", "layout", "index", "_"] ["self", "layout"] (defScope sMInit) := ⟨rfl, rfl, rfl, by decide +kernel, rfl, by decide +kernel, by decide +kernel⟩
def f1 (ly : Addr) : List (Str × V) := [("layout", .ref ly)]
def f2 (ly : Addr) : List (Str × V) := [("layout", .ref ly), ("count", .int 0)]
def f3 (ly r : Addr) : List (Str × V) := [("layout", .ref ly), ("count", .int 0), ("rows", .ref r)]
def f4 (ly r t : Addr) : List (Str × V) := [("layout", .ref ly), ("count", .int 0), ("rows", .ref r), ("trails", .ref t)]
theorem sN {a b : Str} (h : ¬ a = b) {A B : List (Str × V)} : (if a = b then A else B) = B := if_neg h
theorem f1_put {ly : Addr} : putF "layout" (.ref ly) [] = f1 ly := rfl
theorem f2_put {ly : Addr} : putF "count" (.int 0) (f1 ly) = f2 ly := by
  unfold f1 f2
  show (if ("layout" : Str) = "count" then _ else (("layout" : Str), V.ref ly) :: [(("count" : Str), V.int 0)]) = _
  rw [if_neg (by decide +kernel)]
theorem f3_put {ly r : Addr} : putF "rows" (.ref r) (f2 ly) = f3 ly r := by
  unfold f2 f3
  show (if ("layout" : Str) = "rows" then _ else (("layout" : Str), V.ref ly) :: (if ("count" : Str) = "rows" then _ else (("count" : Str), V.int 0) :: [(("rows" : Str), V.ref r)])) = _
  rw [if_neg (by decide +kernel), if_neg (by decide +kernel)]
theorem f4_put {ly r t : Addr} : putF "trails" (.ref t) (f3 ly r) = f4 ly r t := by
  unfold f3 f4
  show (if ("layout" : Str) = "trails" then _ else (("layout" : Str), V.ref ly) :: (if ("count" : Str) = "trails" then _ else (("count" : Str), V.int 0) :: (if ("rows" : Str) = "trails" then _ else (("rows" : Str), V.ref r) :: [(("trails" : Str), V.ref t)]))) = _
  rw [if_neg (by decide +kernel), if_neg (by decide +kernel), if_neg (by decide +kernel)]
theorem f5_put {ly r t q : Addr} : putF "notes" (.ref q) (f4 ly r t) = mf ly 0 r t q := by
  unfold f4 mf
  show (if ("layout" : Str) = "notes" then _ else (("layout" : Str), V.ref ly) :: (if ("count" : Str) = "notes" then _ else (("count" : Str), V.int 0) :: (if ("rows" : Str) = "notes" then _ else (("rows" : Str), V.ref r) ::
    (if ("trails" : Str) = "notes" then _ else (("trails" : Str), V.ref t) :: [(("notes" : Str), V.ref q)])))) = _
  rw [if_neg (by decide +kernel), if_neg (by decide +kernel), if_neg (by decide +kernel), if_neg (by decide +kernel)]
  rfl
theorem f4_trails {ly r t : Addr} : (f4 ly r t).lookup ("trails" : Str) = some (.ref t) := by
  unfold f4
  rw [List.lookup_cons, show (("trails" : Str) == "layout") = false by decide +kernel]
  dsimp only
  rw [List.lookup_cons, show (("trails" : Str) == "count") = false by decide +kernel]
  dsimp only
  rw [List.lookup_cons, show (("trails" : Str) == "rows") = false by decide +kernel]
  rfl
theorem f4_layout {ly r t : Addr} : (f4 ly r t).lookup ("layout" : Str) = some (.ref ly) := rfl
theorem f4_nono {ly r t : Addr} : (f4 ly r t).lookup ("no_notes" : Str) = none := by
  unfold f4
  simp only [List.lookup_cons, show (("no_notes" : Str) == "layout") = false by decide +kernel, show (("no_notes" : Str) == "count") = false by decide +kernel, show (("no_notes" : Str) == "rows") = false by decide +kernel,
    show (("no_notes" : Str) == "trails") = false by decide +kernel, List.lookup_nil]
def spMInit (CM CL : Addr) : Sp := fun vs H Q _ => ∃ p dx ly dl : Addr, vs = [.ref p, .ref ly] ∧ H p = some (.ins CM dx []) ∧ H ly = some (.ins CL dl lf) ∧ p ≠ ly ∧
  ∀ H' m, m.p = p → MemAt CM CL H' m ms0 0 → Step H [p, ly] H' m.fp → Q .non H'
/-- a memory without notes: its trails lie at c, nothing of p or its layout is in it -/
structure Pre (CM CL : Addr) (H0 : Hp) (p dx ly dl r : Addr) (H : Hp) (c : Co) (t : List (List PyData)) : Prop where
  nt : c.nt = r
  ns : c.ns = []
  C : CoAt H c { tr := t, nt := [] }
  hp : H p = some (.ins CM dx (f4 ly r c.tr))
  hly : H ly = some (.ins CL dl lf)
  np : p ∉ c.fp
  nl : ly ∉ c.fp
  st : Step H0 [p, ly] H (p :: ly :: c.fp)
theorem Pre.set {CM CL : Addr} {H0 H : Hp} {p dx ly dl r q : Addr} {c : Co} {t : List (List PyData)} {i : Nat} {v : V} {d : PyData} (R : Pre CM CL H0 p dx ly dl r H c t) (hi : i < t.length) (hq : H q = none) (hd : Dt H v d) :
    Pre CM CL H0 p dx ly dl r (upd (upd H q (.lst [v])) c.tr (.lst ((c.ms.map V.ref).set i (.ref q)))) { c with ms := c.ms.set i q } (t.set i [d]) := by
  obtain ⟨C1, S1⟩ := R.C.setNew (xs := [v]) (ds := [d]) hi hq (DtAll.one hd)
  obtain ⟨a1, a2⟩ := S1.out R.hp R.np
  obtain ⟨b1, b2⟩ := S1.out R.hly R.nl
  refine ⟨R.nt, R.ns, C1, a1, b1, a2, b2, R.st.trans (S1.wide (fun b hb => List.mem_cons_of_mem _ (List.mem_cons_of_mem _ hb)) fun b hb => ?_)⟩
  rcases List.mem_cons.mp hb with e | hb
  · exact .inr (by rw [e]; exact List.mem_cons_self)
  rcases List.mem_cons.mp hb with e | hb
  · exact .inr (by rw [e]; exact List.mem_cons_of_mem _ List.mem_cons_self)
  · exact .inl hb
theorem Pre.done {CM CL : Addr} {H0 H H8 : Hp} {p dx ly dl r q d0 d1 : Addr} {c : Co} {t : List (List PyData)} (R : Pre CM CL H0 p dx ly dl r H c t) (npl : p ≠ ly) (N : New2 H q d0 d1 H8) :
    MemAt CM CL (upd H8 p (.ins CM dx (mf ly 0 r c.tr q))) ⟨p, ly, r, dx, dl, ⟨c.tr, q, c.ms, [d0, d1]⟩⟩ { tr := t, nt := [[], []] } 0 ∧
      Step H0 [p, ly] (upd H8 p (.ins CM dx (mf ly 0 r c.tr q))) (⟨p, ly, r, dx, dl, ⟨c.tr, q, c.ms, [d0, d1]⟩⟩ : MA).fp := by
  obtain ⟨hnt, hns, C, hp, hly, np, nl, st⟩ := R
  obtain ⟨tr, nt, ms, ns⟩ := c
  have hnt : nt = r := hnt
  have hns : ns = [] := hns
  subst hnt hns
  obtain ⟨p1, p2, p3, p4, p5, p6, p7, p8⟩ := C.parts
  have p1 : tr ≠ nt := p1
  have p2 : tr ∉ ms := p2
  have p4 : nt ∉ ms := p4
  have p6 : ms.Nodup := p6
  have fp_ : ∀ b, b ∉ (Co.fp ⟨tr, nt, ms, []⟩) → b ≠ tr ∧ b ≠ nt ∧ b ∉ ms := fun b hb => by
    unfold Co.fp at hb
    simp only [List.mem_cons, List.mem_append, not_or] at hb
    exact ⟨hb.1, hb.2.1, hb.2.2.1⟩
  obtain ⟨a1, a2, a3⟩ := fp_ _ np
  obtain ⟨b1, b2, b3⟩ := fp_ _ nl
  obtain ⟨q1, q2, q3⟩ := fp_ _ (C.fresh N.fq)
  obtain ⟨r1, r2, r3⟩ := fp_ _ (C.fresh N.f0)
  obtain ⟨s1, s2, s3⟩ := fp_ _ (C.fresh N.f1)
  have qp : q ≠ p := fun e => by have := N.fq; rw [e, hp] at this; cases this
  have d0p : d0 ≠ p := fun e => by have := N.f0; rw [e, hp] at this; cases this
  have d1p : d1 ≠ p := fun e => by have := N.f1; rw [e, hp] at this; cases this
  have ql : q ≠ ly := fun e => by have := N.fq; rw [e, hly] at this; cases this
  have d0l : d0 ≠ ly := fun e => by have := N.f0; rw [e, hly] at this; cases this
  have d1l : d1 ≠ ly := fun e => by have := N.f1; rw [e, hly] at this; cases this
  have at_ : ∀ b o, b ≠ p → H8 b = some o → (upd H8 p (.ins CM dx (mf ly 0 nt tr q))) b = some o := fun b o hb e => by rw [upd_ne hb]; exact e
  have tp : Tups H (upd H8 p (.ins CM dx (mf ly 0 nt tr q))) := fun b xs e => at_ b _ (ne_of e hp (by intro z; cases z)) (N.sm _ _ e)
  have nd2 : (ms ++ [d0, d1]).Nodup := by
    rw [List.nodup_append]
    refine ⟨p6, by simp [N.ne], fun a ha b hb e => ?_⟩
    subst e
    have hb' : a = d0 ∨ a = d1 := by simpa using hb
    rcases hb' with e | e
    · subst e; exact r3 ha
    · subst e; exact s3 ha
  have ndC : (tr :: q :: (ms ++ [d0, d1])).Nodup := by
    simp only [List.nodup_cons, List.mem_cons, List.mem_append, List.not_mem_nil, or_false, not_or]
    exact ⟨⟨q1.symm, p2, r1.symm, s1.symm⟩, ⟨q3, N.n0.symm, N.n1.symm⟩, nd2⟩
  refine ⟨⟨?_, upd_same, at_ _ _ npl.symm (N.sm _ _ hly), ⟨[], at_ _ _ a2.symm (N.sm _ _ C.hnt), rfl⟩, ⟨ndC, at_ _ _ a1.symm (N.sm _ _ C.htr), at_ _ _ qp N.hq, C.lm, rfl, fun i a ha => ?_, fun i a ha => ?_⟩⟩, ⟨fun b o e hb => ?_, fun b hb => ?_, fun b xs e => ?_⟩⟩
  · show (p :: ly :: nt :: tr :: q :: (ms ++ [d0, d1])).Nodup
    simp only [List.nodup_cons, List.mem_cons, List.mem_append, List.not_mem_nil, or_false, not_or]
    exact ⟨⟨npl, a2, a1, qp.symm, a3, d0p.symm, d1p.symm⟩, ⟨b2, b1, ql.symm, b3, d0l.symm, d1l.symm⟩, ⟨p1.symm, q2.symm, p4, r2.symm, s2.symm⟩, ⟨q1.symm, p2, r1.symm, s1.symm⟩, ⟨q3, N.n0.symm, N.n1.symm⟩, nd2⟩
  · obtain ⟨xs, h, d⟩ := C.hm i a ha
    exact ⟨xs, at_ _ _ (ne_of h hp (by intro z; cases z)) (N.sm _ _ h), d.to tp⟩
  · have ha' : [d0, d1][i]? = some a := ha
    match i, ha' with
    | 0, e =>
      cases e
      exact at_ d0 (.dK (kv [])) d0p N.h0
    | 1, e =>
      cases e
      exact at_ d1 (.dK (kv [])) d1p N.h1
    | j + 2, e => cases e
  · have hb' : b ≠ p := fun z => hb (by rw [z]; exact List.mem_cons_self)
    exact at_ b o hb' (N.sm _ _ (st.keep b o e hb))
  · have hb' : b ∈ p :: ly :: nt :: tr :: q :: (ms ++ [d0, d1]) := hb
    simp only [List.mem_cons, List.mem_append, List.not_mem_nil, or_false] at hb'
    have old : b ∈ p :: ly :: (Co.fp ⟨tr, nt, ms, []⟩) → b ∈ [p, ly] ∨ H0 b = none := st.new b
    have inC : b = tr ∨ b = nt ∨ b ∈ ms → b ∈ p :: ly :: (Co.fp ⟨tr, nt, ms, []⟩) := fun z => by
      unfold Co.fp
      simp only [List.mem_cons, List.mem_append]
      rcases z with z | z | z
      · exact .inr (.inr (.inl z))
      · exact .inr (.inr (.inr (.inl z)))
      · exact .inr (.inr (.inr (.inr (.inl z))))
    have fresh : H b = none → b ∈ [p, ly] ∨ H0 b = none := fun z => st.gone z
    rcases hb' with e | e | e | e | e | e | e | e
    · exact .inl (by rw [e]; simp)
    · exact .inl (by rw [e]; simp)
    · exact old (inC (.inr (.inl e)))
    · exact old (inC (.inl e))
    · exact fresh (by rw [e]; exact N.fq)
    · exact old (inC (.inr (.inr e)))
    · exact fresh (by rw [e]; exact N.f0)
    · exact fresh (by rw [e]; exact N.f1)
  · exact tp b xs (st.tups b xs e)
theorem lf_no {x : Str} (h : (lf.lookup x).isSome = false) : lf.lookup x = none := by
  cases e : lf.lookup x with
  | none => rfl
  | some v => rw [e] at h; cases h
theorem ok_mInit (T : Txt w K mg) : FnOk P w K mg base CX0 3 T.mInit.f T.mInit.fd ["self", "layout"] (spMInit T.CM T.CL) := by
  have GE : FnOk P w K mg base CX0 1 T.epoch.f T.epoch.fd ["self"] _ := ok_epoch T
  have GN : FnOk P w K mg base CX0 2 T.cells.f T.cells.fd ["self"] _ := ok_cells T
  have GW : FnOk P w K mg base CX0 1 T.word.f T.word.fd ["self", "index"] _ := ok_word T
  have GR : FnOk P w K mg base CX0 1 T.record.f T.record.fd ["self", "index"] _ := ok_record T
  have GO : FnOk P w K mg base CX0 1 T.noNotes.f T.noNotes.fd ["self"] _ := ok_noNotes T
  refine T.mInit.F.ok scMInit (fun vs H Q E h => ?_) (fun cdv A outer s H vs Q E hr h => ?_)
  · obtain ⟨p, dx, ly, dl, rfl, _⟩ := h
    rfl
  · obtain ⟨p, dx, ly, dl, rfl, hp, hly, npl, kk⟩ := h
    have hr1 : Room 1 _ := hr.mono (by decide)
    refine ⟨_, pss_cons (ps_fld (pv 0) (pv 1) rfl) (pss_cons (ps_fld (pv 0) pe_int rfl) (pss_cons (ps_fld (pv 0) (pe_lst pa_nil) rfl)
      (pss_cons (ps_fld (pv 0) (pe_lc (own := [("_", 3)]) (g := gName 3) (tt := tYes) rfl scMInit.nd (pi_range1 rfl T.bRange (pa_cons (pe_meth0 (pv 1) T.clL T.cells.m GN hr T.cells.b .nil pass0) pa_nil))
        (blkOk_by (N := ["self", "layout", "index", "_"]) (sc := defScope sMInit) (by decide +kernel)) (fun _ _ _ _ _ => pg_name (i := 3) scMInit.nd rfl (Or.inl rfl)) (fun _ _ _ _ _ => pts_nil) (fun _ _ _ _ _ => pe_lst (pa_cons pe_non pa_nil))) rfl)
      (pss_cons (ps_asg (pe_lst (pa_cons pe_int pa_nil)) (pg_sub (pe_fld (pv 0) rfl) (pe_meth0 (pv 1) T.clL T.epoch.m GE hr1 T.epoch.b .nil pass0) set_list))
      (pss_cons (ps_for PassesOwn.never rfl (pi_range1 rfl T.bRange (pa_cons (pe_fld (pv 1) rfl) pa_nil)) (pg_name (i := 2) scMInit.nd rfl (Or.inl rfl))
        (pss_cons (ps_asg (pe_lst (pa_cons (pe_meth (pv 1) T.clL T.record.m GR hr1 T.record.b .nil pass0 (pa_cons (pv 2) pa_nil)) pa_nil)) (pg_sub (pe_fld (pv 0) rfl) (pe_meth (pv 1) T.clL T.word.m GW hr1 T.word.b .nil pass0 (pa_cons (pv 2) pa_nil)) set_list))
        (pss_one (ps_asg (pe_lst (pa_cons (pe_tup (pa_cons pe_str (pa_cons (pe_tup pa_nil) pa_nil))) pa_nil)) (pg_sub (pe_fld (pv 0) rfl) (pe_meth (pv 1) T.clL T.record.m GR hr1 T.record.b .nil pass0 (pa_cons (pv 2) pa_nil)) set_list)))))
      (pss_one (ps_fld (pv 0) (pe_meth0 (pv 0) T.clM T.noNotes.m GO hr1 T.noNotes.b .nil pass0) rfl))))))), ?_⟩
    refine ⟨_, rfl, _, rfl, p, _, dx, _, rfl, hp, T.clM, T.nLayout, (by show 0 < 1000; decide), ?_⟩
    rw [f1_put]
    refine ⟨_, rfl, p, _, dx, _, rfl, upd_same, T.clM, T.nCount, (by show 1 < 1000; decide), ?_⟩
    rw [f2_put, upd_upd]
    refine ⟨Nat.zero_le _, fun r hr0 => ?_⟩
    have hrH : H r = none := by
      rw [upd_ne] at hr0
      · exact hr0
      · intro z; subst z; rw [upd_same] at hr0; cases hr0
    have npr : p ≠ r := ne_of_none hp hrH
    refine ⟨_, rfl, p, _, dx, _, rfl, (by rw [upd_ne npr, upd_same]), T.clM, T.nRows, (by show 2 < 1000; decide), ?_⟩
    rw [f3_put]
    -- the heap before the trails
    generalize hH3 : upd (upd (upd H p (.ins T.CM dx (f2 ly))) r (.lst [])) p (.ins T.CM dx (f3 ly r)) = H3
    have h3p : H3 p = some (.ins T.CM dx (f3 ly r)) := by rw [← hH3, upd_same]
    have h3r : H3 r = some (.lst []) := by rw [← hH3, upd_ne npr.symm, upd_same]
    have h3o : ∀ b o, b ≠ p → H b = some o → H3 b = some o := fun b o hb e => by rw [← hH3, upd_ne hb, upd_ne (ne_of_none e hrH), upd_ne hb]; exact e
    have h3n : ∀ b, H3 b = none → H b = none := fun b e => by
      cases q : H b with
      | none => rfl
      | some o =>
        by_cases hb : b = p
        · subst hb; rw [h3p] at e; cases e
        · rw [h3o b o hb q] at e; cases e
    have h3ly : H3 ly = some (.ins T.CL dl lf) := h3o ly _ npl.symm hly
    refine ⟨_, rfl, ly, dl, _, rfl, h3ly, lf_cells, ly, rfl, ⟨dl, h3ly⟩, 13, rfl, by decide, by decide, fun D hD => ?_⟩
    refine lc_range (lo := 0) (n := (13 : Int).toNat) (fun i H' => ∃ ds : List Addr, ds.length = i ∧ H' D = some (.lst (ds.map V.ref)) ∧ ds.Nodup ∧ (∀ d ∈ ds, H' d = some (.lst [.non]) ∧ H3 d = none ∧ d ≠ D) ∧ Same H3 H')
      ⟨[], rfl, upd_same, List.nodup_nil, fun d hd => by simp at hd, same_new hD⟩ ?_ ?_
    · rintro i H' hi ⟨ds, hlen, hDl, hnd, hall, sm⟩
      refine ⟨rfl, ?_⟩
      refine ⟨le_line (by simp), fun d hd => ?_⟩
      have nd : d ∉ ds := fun z => by rw [(hall d z).1] at hd; cases hd
      have nD : D ≠ d := ne_of_none hDl hd
      have hi13 : i < 13 := hi
      refine ⟨ds.map V.ref, by rw [upd_ne nD]; exact hDl, lt_line (by rw [List.length_map, hlen]; omega), ds ++ [d], by rw [List.length_append, hlen]; rfl, ?_, ?_, ?_, ?_⟩
      · rw [upd_same, List.map_append]; rfl
      · rw [List.nodup_append]
        refine ⟨hnd, by simp, fun a ha b hb => ?_⟩
        have eb : b = d := by simpa using hb
        subst eb
        intro e; subst e; exact nd ha
      · intro a ha
        rcases List.mem_append.mp ha with hm | hm
        · obtain ⟨h1, h2, h3⟩ := hall a hm
          refine ⟨?_, h2, h3⟩
          rw [upd_ne h3, upd_ne (fun e => nd (by rw [← e]; exact hm))]
          exact h1
        · have ea : a = d := by simpa using hm
          subst ea
          exact ⟨by rw [upd_ne nD.symm, upd_same], sm.free hd, nD.symm⟩
      · intro b o e
        have e' := sm b o e
        rw [upd_ne, upd_ne (ne_of_none e' hd)]
        · exact e'
        · intro z; subst z; rw [hD] at e; cases e
    · rintro H4 ⟨ds, hlen, hDl, hnd, hall, sm⟩
      have hlen : ds.length = 13 := hlen
      have h4p := sm _ _ h3p
      refine ⟨_, rfl, p, _, dx, _, rfl, h4p, T.clM, T.nTrails, (by show 3 < 1000; decide), ?_⟩
      rw [f4_put]
      have nDp : D ≠ p := fun e => by rw [← e, hD] at h3p; cases h3p
      have nDr : D ≠ r := fun e => by rw [← e, hD] at h3r; cases h3r
      have nDl : D ≠ ly := fun e => by rw [← e, hD] at h3ly; cases h3ly
      have nds : ∀ b o, H3 b = some o → b ∉ ds := fun b o e z => by rw [(hall b z).2.1] at e; cases e
      have at4 : ∀ b o, b ≠ p → H4 b = some o → (upd H4 p (.ins T.CM dx (f4 ly r D))) b = some o := fun b o hb e => by rw [upd_ne hb]; exact e
      have R : Pre T.CM T.CL H p dx ly dl r (upd H4 p (.ins T.CM dx (f4 ly r D))) { tr := D, nt := r, ms := ds, ns := [] } (List.replicate 13 [PyData.none]) := by
        refine ⟨rfl, rfl, ⟨?_, at4 D _ nDp hDl, at4 r _ npr.symm (sm _ _ h3r), by rw [List.length_replicate]; exact hlen, rfl, fun i a ha => ?_, fun i a ha => ?_⟩, upd_same, at4 ly _ npl.symm (sm _ _ h3ly), ?_, ?_, ⟨fun b o e hb => ?_, fun b hb => ?_, fun b xs e => ?_⟩⟩
        · show (D :: r :: (ds ++ [])).Nodup
          rw [List.append_nil]
          refine List.nodup_cons.mpr ⟨?_, List.nodup_cons.mpr ⟨nds r _ h3r, hnd⟩⟩
          simp only [List.mem_cons, not_or]
          exact ⟨nDr, fun z => (hall D z).2.2 rfl⟩
        · have ham := List.mem_of_getElem? ha
          obtain ⟨h1, h2, _⟩ := hall a ham
          refine ⟨[.non], at4 a _ (fun e => by rw [← e, h2] at h3p; cases h3p) h1, ?_⟩
          have hi : i < 13 := by rw [← hlen]; exact (List.getElem?_eq_some_iff.mp ha).1
          show DtAll _ _ ((List.replicate 13 [PyData.none]).getD i [])
          rw [List.getD_eq_getElem?_getD, List.getElem?_replicate, if_pos hi]
          exact DtAll.one .non
        · have ha' : ([] : List Addr)[i]? = some a := ha
          simp at ha'
        · show p ∉ D :: r :: (ds ++ [])
          simp only [List.append_nil, List.mem_cons, not_or]
          exact ⟨nDp.symm, npr, nds p _ h3p⟩
        · show ly ∉ D :: r :: (ds ++ [])
          simp only [List.append_nil, List.mem_cons, not_or]
          exact ⟨nDl.symm, ne_of h3ly h3r (by intro z; cases z), nds ly _ h3ly⟩
        · simp only [List.mem_cons, List.not_mem_nil, or_false, not_or] at hb
          exact at4 b o hb.1 (sm _ _ (h3o b o hb.1 e))
        · have hb' : b ∈ p :: ly :: D :: r :: (ds ++ []) := hb
          simp only [List.append_nil, List.mem_cons] at hb'
          rcases hb' with e | e | e | e | e
          · exact .inl (by rw [e]; simp)
          · exact .inl (by rw [e]; simp)
          · exact .inr (by rw [e]; exact h3n D hD)
          · exact .inr (by rw [e]; exact hrH)
          · exact .inr (h3n b (hall b e).2.1)
        · exact at4 b _ (ne_of e hp (by intro z; cases z)) (sm _ _ (h3o b _ (ne_of e hp (by intro z; cases z)) e))
      generalize hH5 : upd H4 p (.ins T.CM dx (f4 ly r D)) = H5 at R ⊢
      -- self.trails[layout.epoch()] = [0]
      refine ⟨le_line (by simp), fun q hq => ?_⟩
      have R1 := R.set (i := 0) (v := .int 0) (d := .int 0) (by rw [List.length_replicate]; decide) hq (.int 0)
      refine ⟨_, rfl, p, _, dx, _, _, rfl, (by rw [upd_ne (ne_of_none R.hp hq)]; exact R.hp), T.clM, T.nTrails, f4_trails, _, rfl, ly, dl, _, rfl, (by rw [upd_ne (ne_of_none R.hly hq)]; exact R.hly), (by decide +kernel), .ref ly, rfl, D, _, _, 0, rfl, rfl,
        (by rw [upd_ne (ne_of_none R.C.htr hq)]; exact R.C.htr), ixN_nat (c := 0) (by rw [List.length_map]; show 0 < ds.length; rw [hlen]; decide), ?_⟩
      -- the words and their records
      refine ⟨_, rfl, ly, _, dl, _, _, rfl, R1.hly, T.clL, T.nWords, lf_w, 2, rfl, by decide, by decide, ?_⟩
      refine for_range (lo := 0) (n := (2 : Int).toNat) (fun i σ H' => ∃ (v : Option V) (c : Co), σ = [some (.ref p), some (.ref ly), v, none] ∧ Pre T.CM T.CL H p dx ly dl r H' c (tr0 i))
        ⟨none, { tr := D, nt := r, ms := ds.set 0 q, ns := [] }, rfl, R1⟩ ?_ ?_
      · rintro i σ H' hi ⟨v, c, rfl, R2⟩
        have hi2 : i < 2 := hi
        have hlc : c.ms.length = 13 := by rw [R2.C.lm]; exact tr0_length i
        refine ⟨_, rfl, ly, dl, _, rfl, R2.hly, lf_record, _, rfl, ly, _, rfl, ⟨dl, R2.hly⟩, le_line (by simp), fun q2 hq2 => ?_⟩
        dsimp only
        rw [show (1 + 2 * 2 + 2 + (0 + (i : Int)) : Int) = ((7 + i : Nat) : Int) by omega]
        have R3 := R2.set (i := 5 + i) (v := .int ((7 + i : Nat) : Int)) (d := .int ((7 + i : Nat) : Int)) (by rw [tr0_length]; omega) hq2 (.int _)
        refine ⟨_, rfl, p, _, dx, _, _, rfl, (by rw [upd_ne (ne_of_none R2.hp hq2)]; exact R2.hp), T.clM, T.nTrails, f4_trails, _, rfl, ly, dl, _, rfl, (by rw [upd_ne (ne_of_none R2.hly hq2)]; exact R2.hly), (by decide +kernel), _, rfl, ly, _, rfl,
          ⟨dl, by rw [upd_ne (ne_of_none R2.hly hq2)]; exact R2.hly⟩, c.tr, _, _, 5 + i, rfl, rfl, (by rw [upd_ne (ne_of_none R2.C.htr hq2)]; exact R2.C.htr), ?_, ?_⟩
        · dsimp only
          rw [show (1 + 2 * 2 + (0 + (i : Int)) : Int) = ((5 + i : Nat) : Int) by omega]
          exact ixN_nat (by rw [List.length_map, hlc]; omega)
        · generalize hH6 : upd (upd H' q2 (.lst [.int ((7 + i : Nat) : Int)])) c.tr (.lst ((c.ms.map V.ref).set (5 + i) (.ref q2))) = H6 at R3 ⊢
          refine ⟨Nat.zero_le _, fun te hte => ?_⟩
          refine ⟨le_line (by simp), fun ti hti => ?_⟩
          have s1 : Same H6 (upd H6 te (.tup [])) := same_new hte
          have s2 : Same (upd H6 te (.tup [])) (upd (upd H6 te (.tup [])) ti (.tup [.str "items", .ref te])) := same_new hti
          have s12 := s1.trans s2
          have R4 : Pre T.CM T.CL H p dx ly dl r (upd (upd H6 te (.tup [])) ti (.tup [.str "items", .ref te])) { c with ms := c.ms.set (5 + i) q2 } ((tr0 i).set (5 + i) [.int ((7 + i : Nat) : Int)]) :=
            ⟨R3.nt, R3.ns, R3.C.same s12, s12 _ _ R3.hp, s12 _ _ R3.hly, R3.np, R3.nl, R3.st.trans (Step.same s12)⟩
          generalize hH7 : upd (upd H6 te (.tup [])) ti (.tup [.str "items", .ref te]) = H7 at R4 ⊢
          have dI : Dt H7 (.ref ti) itemsD := by
            have nti : te ≠ ti := ne_of_none upd_same hti
            rw [← hH7]
            exact .tup upd_same (.cons (.str _) (.cons (.tup (by rw [upd_ne nti, upd_same]) .nil) .nil))
          refine ⟨le_line (by simp), fun q3 hq3 => ?_⟩
          have R5 := R4.set (i := 7 + i) (v := .ref ti) (d := itemsD) (by rw [List.length_set, tr0_length]; omega) hq3 dI
          refine ⟨_, rfl, p, _, dx, _, _, rfl, (by rw [upd_ne (ne_of_none R4.hp hq3)]; exact R4.hp), T.clM, T.nTrails, f4_trails, _, rfl, ly, dl, _, rfl, (by rw [upd_ne (ne_of_none R4.hly hq3)]; exact R4.hly), (by decide +kernel), _, rfl, ly, _, rfl,
            ⟨dl, by rw [upd_ne (ne_of_none R4.hly hq3)]; exact R4.hly⟩, c.tr, _, _, 7 + i, rfl, rfl, (by rw [upd_ne (ne_of_none R4.C.htr hq3)]; exact R4.C.htr), ?_, ?_⟩
          · dsimp only
            rw [show (1 + 2 * 2 + 2 + (0 + (i : Int)) : Int) = ((7 + i : Nat) : Int) by omega]
            exact ixN_nat (by rw [List.length_map]; show 7 + i < (c.ms.set (5 + i) q2).length; rw [List.length_set, hlc]; omega)
          · rw [← tr0_succ] at R5
            exact ⟨_, _, rfl, R5⟩
      · rintro σ H' ⟨v, c, rfl, R2⟩
        have R2 : Pre T.CM T.CL H p dx ly dl r H' c (tr0 2) := R2
        refine ⟨_, rfl, p, dx, _, rfl, R2.hp, f4_nono, p, dx, ly, _, rfl, R2.hp, f4_layout, ⟨dl, R2.hly⟩, fun q d0 d1 H8 N => ?_⟩
        refine ⟨_, rfl, p, _, dx, _, rfl, N.sm _ _ R2.hp, T.clM, T.nNotes, (by show 4 < 1000; decide), ?_⟩
        rw [f5_put]
        obtain ⟨M9, S9⟩ := R2.done npl N
        exact kk _ _ rfl M9 S9
end
end DK

/-! The law's tape, its values, its own trails. -/
namespace DK
open PySem L2
section
variable {P : Program} {w : World} {K : PySem.W.Frag} {mg : Str → Option Value} {base : Heap}
/-! ### the tape -/
theorem scTape : FnScope ["_law_script", "_law_tape_here", "_law_k", "_law_value_here", "_law_step_here"] ["_law_script"] (defScope sTape) := ⟨rfl, rfl, rfl, by decide +kernel, rfl, by decide +kernel, by decide +kernel⟩
def spTape (K : PySem.W.Frag) : Sp := fun vs H Q _ => ∃ (a : Addr) (ns : List Int), vs = [.ref a] ∧ SqL K H a (ns.map V.int) ∧ ns.length ≤ 63 ∧
  ∀ (p : Addr) (ts : List Int), H p = none → ts.length ≤ 4000 → Q (.ref p) (upd H p (.lst (ts.map V.int)))
theorem app_ints (ts : List Int) (z : Int) : ts.map V.int ++ [V.int z] = (ts ++ [z]).map V.int := by rw [List.map_append]; rfl
theorem ok_tape (T : Txt w K mg) : FnOk P w K mg base CX0 1 T.tape.f T.tape.fd ["_law_script"] (spTape K) := by
  refine T.tape.F.ok scTape (fun vs H Q E h => ?_) (fun cdv A outer s H vs Q E hr h => ?_)
  · obtain ⟨a, ns, rfl, _⟩ := h
    rfl
  · obtain ⟨a, ns, rfl, hS, hlen, kk⟩ := h
    refine ⟨_, pss_cons (ps_set (i := 1) scTape.nd rfl (Or.inl rfl) (pe_lst pa_nil))
      (pss_cons (ps_for PassesOwn.never rfl (pi_range1 rfl T.bRange (pa_cons (pe_callB call_len_seq (by rfl) T.bLen PySem.boot_len (pa_cons (pv 0) pa_nil)) pa_nil)) (pg_name (i := 2) scTape.nd rfl (Or.inl rfl))
        (pss_cons (ps_set (i := 3) scTape.nd rfl (Or.inl rfl) (pe_callB call_abs (by rfl) T.bAbs boot_abs' (pa_cons (pe_callTy call_int1 (by rfl) T.bInt boot_int' (pa_cons (pe_ix ix_list (pv 0) (pv 2) (fun _ _ => rfl)) pa_nil)) pa_nil)))
        (pss_one (ps_if (pt_cmpR op_ge (pv 3) (pe_op op_pow pe_int pe_int) (nomark _))
          (pss_one (ps_for PassesOwn.never rfl (pi_range1 rfl T.bRange (pa_cons pe_int pa_nil)) (pg_name (i := 4) scTape.nd rfl (Or.inl rfl))
            (pss_one (ps_if (pt_cmpR op_gt (pv 3) pe_int (nomark _))
              (pss_cons (ps_expr (pe_bm PySem.F.plainAttrs_list PySem.F.slot_list_append PySem.F.type_list_append mt_append (pv 1) (pa_cons (pe_op op_mod (pv 3) pe_int) pa_nil)))
                (pss_one (ps_set (i := 3) scTape.nd rfl (Or.inl rfl) (pe_op op_fdiv (pv 3) pe_int)))) pss_nil))))
          (pss_one (ps_for PassesOwn.never rfl (pi_range1 rfl T.bRange (pa_cons pe_int pa_nil)) (pg_name (i := 4) scTape.nd rfl (Or.inl rfl))
            (pss_cons (ps_set (i := 3) scTape.nd rfl (Or.inl rfl) (pe_op op_mod (pe_op op_add (pe_op op_add (pe_op op_mul (pv 3) pe_int) (pe_op op_mul pe_int (pe_op op_add (pv 2) pe_int))) (pe_op op_mul pe_int (pv 4))) pe_int))
            (pss_cons (ps_set (i := 3) scTape.nd rfl (Or.inl rfl) (pe_op op_mod (pe_op op_mul (pv 3) pe_int) pe_int))
            (pss_one (ps_expr (pe_bm PySem.F.plainAttrs_list PySem.F.slot_list_append PySem.F.type_list_append mt_append (pv 1) (pa_cons (pe_op op_mod (pe_op op_fdiv (pv 3) pe_int) pe_int) pa_nil))))))))))))
      (pss_one (ps_ret (pv 1)))), ?_⟩
    refine ⟨Nat.zero_le _, fun p hp => ?_⟩
    have sm : ∀ o, Same H (upd H p o) := fun o => same_new hp
    refine ⟨_, rfl, a, _, rfl, .inl ((sm _).seq hS), _, rfl, by rw [List.length_map]; omega, by rw [List.length_map]; omega, ?_⟩
    have en : (((ns.map V.int).length : Nat) : Int).toNat = ns.length := by rw [List.length_map]; exact Int.toNat_natCast _
    refine for_range (lo := 0) (n := (((ns.map V.int).length : Nat) : Int).toNat) (fun i σ H' => ∃ (ts : List Int) (v2 v3 v4 : Option V), σ = [some (.ref a), some (.ref p), v2, v3, v4] ∧ H' = upd H p (.lst (ts.map V.int)) ∧ ts.length ≤ 60 * i)
      ⟨[], none, none, none, rfl, rfl, Nat.zero_le _⟩ ?_ ?_
    · rintro i σ H' hi ⟨ts, v2, v3, v4, rfl, rfl, hl⟩
      have hi' : i < ns.length := by rw [en] at hi; exact hi
      have hx : (ns.map V.int)[i]? = some (.int ns[i]) := by rw [List.getElem?_map, List.getElem?_eq_getElem hi']; rfl
      refine ⟨_, rfl, _, rfl, a, _, _, .int ns[i], rfl, rfl, (sm _).seq hS, ?_, .inl ⟨_, rfl, _, rfl, ?_⟩⟩
      · rw [show (0 : Int) + (i : Int) = (i : Int) by omega]
        exact atI_nat hx
      refine ⟨_, rfl, _, _, rfl, rfl, ⟨by decide, by decide, by decide⟩, _, _, rfl, rfl, _, rfl, ?_⟩
      refine ite2 (fun h1 => ?_) (fun h1 => ?_)
      · refine ⟨60, rfl, by decide, by decide, ?_⟩
        refine for_range (lo := 0) (n := (60 : Int).toNat) (fun j σ H' => ∃ (ts' : List Int) (x : Int) (v4 : Option V), σ = [some (.ref a), some (.ref p), some (.int (0 + (i : Int))), some (.int x), v4] ∧ H' = upd H p (.lst (ts'.map V.int)) ∧ ts'.length ≤ 60 * i + j)
          ⟨ts, _, v4, rfl, rfl, hl⟩ ?_ ?_
        · rintro j σ H' hj ⟨ts', x, v4', rfl, rfl, hl'⟩
          have hj' : j < 60 := hj
          refine ⟨_, rfl, _, _, rfl, rfl, _, rfl, ?_⟩
          refine ite2 (fun h2 => ?_) (fun h2 => ?_)
          · refine ⟨_, rfl, .inl ⟨rfl, _, SqL.of upd_same⟩, _, rfl, _, _, rfl, rfl, (by show (0 : Int) < 1000; decide), p, _, _, rfl, rfl, upd_same, lt_line (by rw [List.length_map]; omega), ?_⟩
            rw [upd_upd, app_ints]
            refine ⟨_, rfl, _, _, rfl, rfl, ⟨by decide, by decide⟩, ?_⟩
            exact ⟨_, _, _, rfl, rfl, by rw [List.length_append]; show ts'.length + 1 ≤ _; omega⟩
          · exact ⟨_, _, _, rfl, rfl, by omega⟩
        · rintro σ H' ⟨ts', x, v4', rfl, rfl, hl'⟩
          have hl' : ts'.length ≤ 60 * i + 60 := hl'
          exact ⟨ts', _, _, _, rfl, rfl, by omega⟩
      · refine ⟨4, rfl, by decide, by decide, ?_⟩
        refine for_range (lo := 0) (n := (4 : Int).toNat) (fun j σ H' => ∃ (ts' : List Int) (x : Int) (v4 : Option V), σ = [some (.ref a), some (.ref p), some (.int (0 + (i : Int))), some (.int x), v4] ∧ H' = upd H p (.lst (ts'.map V.int)) ∧ ts'.length ≤ 60 * i + j)
          ⟨ts, _, v4, rfl, rfl, hl⟩ ?_ ?_
        · rintro j σ H' hj ⟨ts', x, v4', rfl, rfl, hl'⟩
          have hj' : j < 4 := hj
          refine ⟨_, rfl, _, _, rfl, rfl, .inr ⟨by decide, by decide⟩, _, rfl, _, _, rfl, rfl, _, _, rfl, rfl, .inl ⟨by decide, by decide⟩, _, _, rfl, rfl, _, rfl, _, _, rfl, rfl, .inl ⟨by decide, by decide⟩, _, _, rfl, rfl, _, _, rfl, rfl, (by show (0 : Int) < 2147483647; decide), ?_⟩
          refine ⟨_, rfl, _, _, rfl, rfl, .inr ⟨by decide, by decide⟩, _, _, rfl, rfl, (by show (0 : Int) < 2147483647; decide), ?_⟩
          refine ⟨_, rfl, .inl ⟨rfl, _, SqL.of upd_same⟩, _, rfl, _, _, rfl, rfl, ⟨by decide, by decide⟩, _, _, rfl, rfl, (by show (0 : Int) < 1000; decide), p, _, _, rfl, rfl, upd_same, lt_line (by rw [List.length_map]; omega), ?_⟩
          rw [upd_upd, app_ints]
          exact ⟨_, _, _, rfl, rfl, by rw [List.length_append]; show ts'.length + 1 ≤ _; omega⟩
        · rintro σ H' ⟨ts', x, v4', rfl, rfl, hl'⟩
          have hl' : ts'.length ≤ 60 * i + 4 := hl'
          exact ⟨ts', _, _, _, rfl, rfl, by omega⟩
    · rintro σ H' ⟨ts, v2, v3, v4, rfl, rfl, hl⟩
      rw [en] at hl
      exact ⟨_, rfl, kk p ts hp (by omega)⟩
/-! ### one number of the tape -/
theorem scAt : FnScope ["_law_tape_here", "_law_k"] ["_law_tape_here", "_law_k"] (defScope sAt) := ⟨rfl, rfl, rfl, by decide +kernel, rfl, by decide +kernel, by decide +kernel⟩
def spAt : Sp := fun vs H Q _ => ∃ (a : Addr) (ts : List Int) (k : Nat), vs = [.ref a, .int (k : Int)] ∧ H a = some (.lst (ts.map V.int)) ∧ ∀ z : Int, Q (.int z) H
theorem ok_at (T : Txt w K mg) : FnOk P w K mg base CX0 1 T.at_.f T.at_.fd ["_law_tape_here", "_law_k"] spAt := by
  refine T.at_.F.ok scAt (fun vs H Q E h => ?_) (fun cdv A outer s H vs Q E hr h => ?_)
  · obtain ⟨a, ts, k, rfl, _⟩ := h
    rfl
  · obtain ⟨a, ts, k, rfl, hS, kk⟩ := h
    refine ⟨_, pss_cons (ps_if (pt_cmpR op_lt (pv 1) (pe_callB call_len_seq (by rfl) T.bLen PySem.boot_len (pa_cons (pv 0) pa_nil)) (nomark _)) (pss_one (ps_ret (pe_ix ix_list (pv 0) (pv 1) (fun _ _ => rfl)))) pss_nil)
      (pss_one (ps_ret pe_int)), ?_⟩
    refine ⟨_, rfl, _, rfl, a, _, rfl, .inl (SqL.of hS), _, _, rfl, rfl, _, rfl, ?_⟩
    refine ite2 (fun h1 => ?_) (fun h1 => ?_)
    · have h1' := of_decide_eq_true h1
      rw [List.length_map] at h1'
      have hk : k < ts.length := by omega
      exact ⟨_, rfl, _, rfl, a, _, _, .int ts[k], rfl, rfl, SqL.of hS, atI_nat (by rw [List.getElem?_map, List.getElem?_eq_getElem hk]; rfl), kk _⟩
    · exact kk 0
/-! ### values -/
theorem scValue : FnScope ["_law_number"] ["_law_number"] (defScope sValue) := ⟨rfl, rfl, rfl, by decide +kernel, rfl, by decide +kernel, by decide +kernel⟩
def spValue : Sp := fun vs H Q _ => ∃ n : Int, vs = [.int n] ∧ ∀ v d H', Same H H' → Dt H' v d → Gd d → Q v H'
theorem mod_nat {n : Int} {m : Nat} (h : 0 < m) : ∃ j : Nat, n % (m : Int) = (j : Int) ∧ j < m := by
  have h1 := Int.emod_nonneg n (show (m : Int) ≠ 0 by omega)
  have h2 := Int.emod_lt_of_pos n (show (0 : Int) < (m : Int) by omega)
  exact ⟨(n % (m : Int)).toNat, by omega, by omega⟩
theorem ok_value (T : Txt w K mg) : FnOk P w K mg base CX0 1 T.value.f T.value.fd ["_law_number"] spValue := by
  refine T.value.F.ok scValue (fun vs H Q E h => ?_) (fun cdv A outer s H vs Q E hr h => ?_)
  · obtain ⟨n, rfl, _⟩ := h
    rfl
  · obtain ⟨n, rfl, kk⟩ := h
    refine ⟨_, pss_one (ps_ret (pe_ix ix_list (pe_lst (pa_cons pe_int (pa_cons pe_int (pa_cons pe_non (pa_cons (pe_tup (pa_cons (pv 0) (pa_cons pe_int pa_nil))) (pa_cons pe_str (pa_cons (pv 0) (pa_cons pe_int
      (pa_cons (pe_tup (pa_cons pe_str (pa_cons pe_int pa_nil))) pa_nil))))))))) (pe_op op_mod (pv 0) pe_int) (fun _ _ => rfl))), ?_⟩
    refine ⟨_, rfl, le_line (by simp), fun p1 hp1 => ?_⟩
    refine ⟨_, rfl, le_line (by simp), fun p2 hp2 => ?_⟩
    refine ⟨le_line (by simp), fun l hl => ?_⟩
    obtain ⟨j, ej, hj⟩ := mod_nat (n := n) (m := 8) (by decide)
    have s1 : Same H (upd H p1 (.tup [.int n, .int 2])) := same_new hp1
    have s2 : Same (upd H p1 (.tup [.int n, .int 2])) (upd (upd H p1 (.tup [.int n, .int 2])) p2 (.tup [.str "done", .int 7])) := same_new hp2
    have s3 : Same (upd (upd H p1 (.tup [.int n, .int 2])) p2 (.tup [.str "done", .int 7])) (upd (upd (upd H p1 (.tup [.int n, .int 2])) p2 (.tup [.str "done", .int 7])) l (.lst [.int 0, .int 1, .non, .ref p1, .str "word", .int n, .int 0, .ref p2])) := same_new hl
    have d1 : Dt (upd (upd (upd H p1 (.tup [.int n, .int 2])) p2 (.tup [.str "done", .int 7])) l (.lst [.int 0, .int 1, .non, .ref p1, .str "word", .int n, .int 0, .ref p2])) (.ref p1) (.tuple [.int n, .int 2]) :=
      .tup (s3 _ _ (s2 _ _ upd_same)) (.cons (.int n) (.cons (.int 2) .nil))
    have d2 : Dt (upd (upd (upd H p1 (.tup [.int n, .int 2])) p2 (.tup [.str "done", .int 7])) l (.lst [.int 0, .int 1, .non, .ref p1, .str "word", .int n, .int 0, .ref p2])) (.ref p2) (.tuple [.str "done", .int 7]) :=
      .tup (s3 _ _ upd_same) (.cons (.str _) (.cons (.int 7) .nil))
    obtain ⟨v, d, hv, dv, gd⟩ : ∃ v d, ([.int 0, .int 1, .non, .ref p1, .str "word", .int n, .int 0, .ref p2] : List V)[j]? = some v ∧ Dt (upd (upd (upd H p1 (.tup [.int n, .int 2])) p2 (.tup [.str "done", .int 7])) l (.lst [.int 0, .int 1, .non, .ref p1, .str "word", .int n, .int 0, .ref p2])) v d ∧ Gd d := by
      match j, hj with
      | 0, _ => exact ⟨_, _, rfl, .int 0, Gd.int _⟩
      | 1, _ => exact ⟨_, _, rfl, .int 1, Gd.int _⟩
      | 2, _ => exact ⟨_, _, rfl, .non, Gd.none⟩
      | 3, _ => exact ⟨_, _, rfl, d1, gd_ints _ _⟩
      | 4, _ => exact ⟨_, _, rfl, .str _, Gd.str (by decide +kernel)⟩
      | 5, _ => exact ⟨_, _, rfl, .int n, Gd.int _⟩
      | 6, _ => exact ⟨_, _, rfl, .int 0, Gd.int _⟩
      | 7, _ => exact ⟨_, _, rfl, d2, gd_pair (by decide +kernel) _⟩
      | j + 8, h => omega
    refine ⟨_, rfl, _, _, rfl, rfl, (by show (0 : Int) < 8; decide), l, _, _, v, rfl, rfl, SqL.of upd_same, ?_, kk v d _ ((s1.trans s2).trans s3) dv gd⟩
    rw [show n % 8 = (j : Int) from ej]
    exact atI_nat hv
end
end DK

/-! The law's own trails: give, shorten, due. -/
namespace DK
open PySem L2
section
variable {n : Nat} {tr nt : Addr}
theorem wk_count : valV (wk n tr nt) (Sum.inr ("count" : Str)) = some (.int (n : Int)) := valV_pos rfl
theorem wk_trails : valV (wk n tr nt) (Sum.inr ("trails" : Str)) = some (.ref tr) := by
  unfold wk
  rw [valV_neg (fun q => absurd (Sum.inr.inj q) (by decide +kernel)), valV_pos rfl]
theorem wk_notes : valV (wk n tr nt) (Sum.inr ("notes" : Str)) = some (.ref nt) := by
  unfold wk
  rw [valV_neg (fun q => absurd (Sum.inr.inj q) (by decide +kernel)), valV_neg (fun q => absurd (Sum.inr.inj q) (by decide +kernel)), valV_pos rfl]
variable {H : Hp} {a : LA} {s : MS}
theorem LawAt.gc (L : LawAt H a s n) : DGet H a.w (.str "count") (some (.int (n : Int))) := by
  have h := DGet.k (k := Sum.inr "count") L.hw
  rw [wk_count] at h; exact h
theorem LawAt.gt (L : LawAt H a s n) : DGet H a.w (.str "trails") (some (.ref a.co.tr)) := by
  have h := DGet.k (k := Sum.inr "trails") L.hw
  rw [wk_trails] at h; exact h
theorem LawAt.gn (L : LawAt H a s n) : DGet H a.w (.str "notes") (some (.ref a.co.nt)) := by
  have h := DGet.k (k := Sum.inr "notes") L.hw
  rw [wk_notes] at h; exact h
end
/-- what a def of the law leaves of its lists -/
def AfterL (H : Hp) (a : LA) (s' : MS) (n' : Nat) (H' : Hp) : Prop := ∃ a' : LA, a'.w = a.w ∧ LawAt H' a' s' n' ∧ Step H a.fp H' a'.fp
theorem AfterL.from_same {H H1 H' : Hp} {a : LA} {s' : MS} {n' : Nat} (h : Same H H1) (x : AfterL H1 a s' n' H') : AfterL H a s' n' H' := by
  obtain ⟨a', e, M, S⟩ := x
  exact ⟨a', e, M, Step.from_same h S⟩
theorem AfterL.none {H : Hp} {a : LA} {s : MS} {n : Nat} (L : LawAt H a s n) : AfterL H a s n H := ⟨a, rfl, L, Step.refl _ _⟩
section
variable {P : Program} {w : World} {K : PySem.W.Frag} {mg : Str → Option Value} {base : Heap}
/-! ### give -/
theorem scLGive : FnScope ["_law_w", "_law_cell", "_law_value_here"] ["_law_w", "_law_cell", "_law_value_here"] (defScope sLGive) := ⟨rfl, rfl, rfl, by decide +kernel, rfl, by decide +kernel, by decide +kernel⟩
def spLGive : Sp := fun vs H Q _ => ∃ (a : LA) (s : MS) (n c : Nat) (v : V) (d : PyData), vs = [.ref a.w, .int (c : Int), v] ∧ LawAt H a s n ∧ WF s 1000 ∧ c < 13 ∧ Dt H v d ∧
  ∀ H', AfterL H a (give s c d) n H' → Q .non H'
theorem ok_lGive (T : Txt w K mg) : FnOk P w K mg base CX0 1 T.lGive.f T.lGive.fd ["_law_w", "_law_cell", "_law_value_here"] spLGive := by
  refine T.lGive.F.ok scLGive (fun vs H Q E h => ?_) (fun cdv A outer s H vs Q E hr h => ?_)
  · obtain ⟨a, s, n, c, v, d, rfl, _⟩ := h
    rfl
  · obtain ⟨a, st, n, c, v, d, rfl, L, W, hc, hd, k⟩ := h
    have hu := hu_of hr
    refine ⟨_, pss_one (ps_if (pt_cmpR op_lt (pv 1) pe_int (nomark _))
      (pss_one (ps_asg (pe_lst (pa_cons (pv 2) pa_nil)) (pg_sub (pe_dget hu (pv 0) pe_str (fun _ _ => rfl)) (pv 1) set_list)))
      (pss_one (ps_asg (pe_op op_cat (pe_ix ix_list (pe_dget hu (pv 0) pe_str (fun _ _ => rfl)) (pv 1) (fun _ _ => rfl)) (pe_lst (pa_cons (pv 2) pa_nil))) (pg_sub (pe_dget hu (pv 0) pe_str (fun _ _ => rfl)) (pv 1) set_list)))), ?_⟩
    have hi : c < st.tr.length := by rw [W.tl]; exact hc
    obtain ⟨b, hb, _, xs, hx, dx⟩ := L.co.ms_at hi
    have hlen : xs.length ≤ 1001 := by rw [dx.length]; exact W.le _ (W.at_mem hc)
    refine ⟨_, rfl, _, _, rfl, rfl, _, rfl, ?_⟩
    refine ite2 (fun h1 => ?_) (fun h1 => ?_)
    · have h1' := of_decide_eq_true h1
      refine ⟨_, rfl, le_line (by simp), fun p hp => ?_⟩
      have sm : Same H (upd H p (.lst [v])) := same_new hp
      have C' := L.co.setNew (xs := [v]) (ds := [d]) hi hp (DtAll.one hd)
      have e : ({ st with tr := st.tr.set c [d] } : MS) = DK.give st c d := by
        unfold DK.give; rw [if_pos (by omega)]
      obtain ⟨L', S'⟩ := L.inner C'.1 C'.2 rfl rfl
      rw [e] at L'
      refine ⟨_, rfl, a.w, _, rfl, (L.same sm).gt, _, rfl, a.co.tr, _, _, c, rfl, rfl, sm _ _ L.co.htr, ixN_nat (by rw [List.length_map, L.co.lm]; exact hi), ?_⟩
      exact k _ ⟨{ a with co := { a.co with ms := a.co.ms.set c p } }, rfl, L', S'⟩
    · have h1' : ¬ (c : Int) < 3 := fun q => h1 (decide_eq_true q)
      refine ⟨_, rfl, a.w, _, rfl, L.gt, _, rfl, a.co.tr, _, _, .ref b, rfl, rfl, SqL.of L.co.htr, atI_nat (ref_at hb), _, rfl, le_line (by simp), fun q hq => ?_⟩
      have s1 : Same H (upd H q (.lst [v])) := same_new hq
      have L1 := L.same s1
      refine ⟨b, q, xs, [v], rfl, rfl, s1 _ _ hx, upd_same, le_line (by simp only [List.length_singleton]; omega), fun p hp => ?_⟩
      have s2 : Same (upd H q (.lst [v])) (upd (upd H q (.lst [v])) p (.lst (xs ++ [v]))) := same_new hp
      have C' := L1.co.setNew (xs := xs ++ [v]) (ds := st.tr.getD c [] ++ [d]) hi hp ((dx.append (DtAll.one hd)).to (Tups.of_same s1))
      have e : ({ st with tr := st.tr.set c (st.tr.getD c [] ++ [d]) } : MS) = DK.give st c d := by
        unfold DK.give; rw [if_neg (by omega)]
      obtain ⟨L', S'⟩ := L1.inner C'.1 C'.2 rfl rfl
      rw [e] at L'
      refine ⟨_, rfl, a.w, _, rfl, (L1.same s2).gt, _, rfl, a.co.tr, _, _, c, rfl, rfl, s2 _ _ L1.co.htr, ixN_nat (by rw [List.length_map, L.co.lm]; exact hi), ?_⟩
      exact k _ (AfterL.from_same s1 ⟨{ a with co := { a.co with ms := a.co.ms.set c p } }, rfl, L', S'⟩)
/-! ### shorten -/
theorem scLShorten : FnScope ["_law_w", "_law_cell", "_law_steps", "_law_notes"] ["_law_w", "_law_cell", "_law_steps"] (defScope sLShorten) := ⟨rfl, rfl, rfl, by decide +kernel, rfl, by decide +kernel, by decide +kernel⟩
def spLShorten : Sp := fun vs H Q _ => ∃ (a : LA) (s : MS) (n c k : Nat), vs = [.ref a.w, .int (c : Int), .int (k : Int)] ∧ LawAt H a s n ∧ WF s 1000 ∧ c < 13 ∧
  ∀ H', AfterL H a (shorten s c k) n H' → Q .non H'
theorem min_eq {k L : Nat} (h : 0 < L) : (if ((L : Int) - 1) < (k : Int) then ((L : Int) - 1) else (k : Int)) = ((min k (L - 1) : Nat) : Int) := by
  split <;> omega
theorem ok_lShorten (T : Txt w K mg) : FnOk P w K mg base CX0 1 T.lShorten.f T.lShorten.fd ["_law_w", "_law_cell", "_law_steps"] spLShorten := by
  refine T.lShorten.F.ok scLShorten (fun vs H Q E h => ?_) (fun cdv A outer s H vs Q E hr h => ?_)
  · obtain ⟨a, s, n, c, k, rfl, _⟩ := h
    rfl
  · obtain ⟨a, st, n, c, k, rfl, L, W, hc, kk⟩ := h
    have hu := hu_of hr
    refine ⟨_, pss_cons (ps_set (i := 2) scLShorten.nd rfl (Or.inl rfl) (pe_callB (call_min2 rfl) (by rfl) T.bMin boot_min' (pa_cons (pv 2)
        (pa_cons (pe_op op_sub (pe_callB call_len_seq (by rfl) T.bLen PySem.boot_len (pa_cons (pe_ix ix_list (pe_dget hu (pv 0) pe_str (fun _ _ => rfl)) (pv 1) (fun _ _ => rfl)) pa_nil)) pe_int) pa_nil))))
      (pss_one (ps_if (pt_cmpR op_gt (pv 2) pe_int (nomark _))
        (pss_cons (ps_asg (pe_slice sl_list (pe_ix ix_list (pe_dget hu (pv 0) pe_str (fun _ _ => rfl)) (pv 1) (fun _ _ => rfl)) (po_some (pv 2)) po_none) (pg_sub (pe_dget hu (pv 0) pe_str (fun _ _ => rfl)) (pv 1) set_list))
        (pss_one (ps_for PassesOwn.never rfl (pi_list (pe_dget hu (pv 0) pe_str (fun _ _ => rfl))) (pg_name (i := 3) scLShorten.nd rfl (Or.inl rfl))
          (pss_one (ps_if (pt_cmp (pc_din hu (pv 1) (pv 3)))
            (pss_one (ps_dput hu (pv 3) (pv 1) (pe_callB (call_max2 rfl) (by rfl) T.bMax boot_max' (pa_cons pe_int (pa_cons (pe_op op_sub (pe_dget hu (pv 3) (pv 1) (fun _ _ => rfl)) (pv 2)) pa_nil))) rfl))
            pss_nil))))) pss_nil)), ?_⟩
    have hi : c < st.tr.length := by rw [W.tl]; exact hc
    obtain ⟨b, hb, _, xs, hx, dx⟩ := L.co.ms_at hi
    have hne : 0 < (st.tr.getD c []).length := List.length_pos_iff.mpr (W.ne _ (W.at_mem hc))
    refine ⟨_, rfl, _, rfl, a.w, _, rfl, L.gt, _, rfl, a.co.tr, _, _, .ref b, rfl, rfl, SqL.of L.co.htr, atI_nat (ref_at hb), b, _, rfl, .inl (SqL.of hx), _, _, rfl, rfl, _, _, rfl, ?_⟩
    have ek : (if (((xs.length : Nat) : Int) - 1) < (k : Int) then (((xs.length : Nat) : Int) - 1) else (k : Int)) = ((shBy st c k : Nat) : Int) := by
      rw [dx.length]; exact min_eq hne
    rw [ek]
    have hsh : shBy st c k ≤ xs.length := by rw [dx.length]; unfold shBy; omega
    refine ⟨_, rfl, _, _, rfl, rfl, _, rfl, ?_⟩
    refine ite2 (fun h1 => ?_) (fun h1 => ?_)
    · -- the trail is cut
      refine ⟨_, rfl, a.w, _, rfl, L.gt, _, rfl, a.co.tr, _, _, .ref b, rfl, rfl, SqL.of L.co.htr, atI_nat (ref_at hb), _, rfl, _, rfl, b, _, rfl, SqL.of hx, fun p hp => ?_⟩
      rw [cut_drop hsh]
      have sm : Same H (upd H p (.lst (xs.drop (shBy st c k)))) := same_new hp
      obtain ⟨C1, S1⟩ := L.co.setNew (xs := xs.drop (shBy st c k)) (ds := (st.tr.getD c []).drop (shBy st c k)) hi hp (dx.drop _)
      obtain ⟨L1, S1⟩ := L.inner C1 S1 rfl rfl
      refine ⟨_, rfl, a.w, _, rfl, (L.same sm).gt, _, rfl, a.co.tr, _, _, c, rfl, rfl, sm _ _ L.co.htr, ixN_nat (by rw [List.length_map, L.co.lm]; exact hi), ?_⟩
      generalize hH1 : upd (upd H p (.lst (xs.drop (shBy st c k)))) a.co.tr (.lst ((a.co.ms.map V.ref).set c (.ref p))) = H1 at L1 S1 ⊢
      refine ⟨_, rfl, a.w, _, rfl, L1.gn, a.co.nt, rfl, ⟨_, SqL.of L1.co.hnt⟩, for_list (K := K) (a := a.co.nt) (xs := a.co.ns.map V.ref)
        (fun i σ H' => ∃ v : Option V, σ = [some (.ref a.w), some (.int (c : Int)), some (.int ((shBy st c k : Nat) : Int)), v] ∧
          LawAt H' { a with co := { a.co with ms := a.co.ms.set c p } } { tr := st.tr.set c ((st.tr.getD c []).drop (shBy st c k)), nt := mapI (shN c (shBy st c k)) st.nt i } n ∧
          Step H1 ({ a with co := { a.co with ms := a.co.ms.set c p } } : LA).fp H' ({ a with co := { a.co with ms := a.co.ms.set c p } } : LA).fp)
        ⟨none, rfl, by rw [mapI_zero]; exact L1, Step.refl _ _⟩ (fun i σ H' _ ⟨_, _, M', _⟩ => SqL.of M'.co.hnt) ?_ ?_⟩
      · rintro i x σ H' hxi ⟨v, rfl, M', S'⟩
        obtain ⟨d, hd, rfl⟩ : ∃ d, a.co.ns[i]? = some d ∧ x = V.ref d := by
          rw [List.getElem?_map] at hxi
          cases e : a.co.ns[i]? with
          | none => rw [e] at hxi; cases hxi
          | some d => rw [e] at hxi; exact ⟨d, rfl, (Option.some.inj hxi).symm⟩
        have hin : i < st.nt.length := by rw [← L.co.ln]; exact (List.getElem?_eq_some_iff.mp hd).1
        have hD : H' d = some (.dK (kv (st.nt.getD i []))) := by
          have := M'.co.hn i d hd
          rw [show ({ tr := st.tr.set c ((st.tr.getD c []).drop (shBy st c k)), nt := mapI (shN c (shBy st c k)) st.nt i } : MS).nt.getD i [] = st.nt.getD i [] from mapI_getD _ hin] at this
          exact this
        have nok : NOk (st.nt.getD i []) := W.nk _ (getD_mem hin)
        refine ⟨_, rfl, _, rfl, d, _, rfl, DGet.k (k := Sum.inl (c : Int)) hD, _, rfl, ?_⟩
        rw [valV_kv]
        cases el : look (st.nt.getD i []) c with
        | none =>
          refine iteF ?_
          refine ⟨_, rfl, ?_, S'⟩
          rw [← mapI_succ (d := []) _ hin, shN_none el]
          have : (mapI (shN c (shBy st c k)) st.nt i).set i (st.nt.getD i []) = mapI (shN c (shBy st c k)) st.nt i := by
            have h1 := set_getD (l := mapI (shN c (shBy st c k)) st.nt i) (i := i) (x := [])
            rw [mapI_getD _ hin] at h1
            exact h1
          rw [this]
          exact M'
        | some q =>
          refine iteT ?_
          have hg : DGet H' d (V.int (c : Int)) (some (V.int (q : Int))) := by
            have h1 := DGet.k (k := Sum.inl (c : Int)) hD
            rw [valV_kv, el] at h1
            exact h1
          refine ⟨_, rfl, _, rfl, d, _, rfl, hg, _, rfl, _, _, rfl, rfl, _, _, rfl, ?_⟩
          rw [note_eq]
          refine ⟨_, rfl, _, rfl, d, _, rfl, DPut.k (k := Sum.inl (c : Int)) hD (by rw [kv_length]; exact lt_line (Nat.lt_of_le_of_lt nok.few (by decide))), ?_⟩
          rw [putK_kv]
          obtain ⟨C2, S2⟩ := M'.co.setNote (l := put (st.nt.getD i []) c (q - shBy st c k)) hd
          obtain ⟨M2, S2⟩ := M'.inner C2 S2 rfl rfl
          refine ⟨_, rfl, ?_, S'.trans S2⟩
          rw [← mapI_succ (d := []) _ hin, shN_some el]
          exact M2
      · rintro σ H' ⟨v, rfl, M', S'⟩
        have e : a.co.ns.length = st.nt.length := L.co.ln
        rw [List.length_map, e, mapI_all] at M'
        exact kk _ ⟨{ a with co := { a.co with ms := a.co.ms.set c p } }, rfl, M', S1.trans S'⟩
    · have h1' : ¬ ((0 : Int) < ((shBy st c k : Nat) : Int)) := fun q => h1 (decide_eq_true q)
      have h0 : shBy st c k = 0 := by omega
      refine kk H ?_
      rw [W.shorten0 h0]
      exact AfterL.none L
/-! ### due -/
theorem scDue : FnScope ["_law_w", "_law_thread", "_law_request_here", "_law_kind", "_law_notes", "_law_cell", "_law_value_here"] ["_law_w", "_law_thread", "_law_request_here"] (defScope sDue) := ⟨rfl, rfl, rfl, by decide +kernel, rfl, by decide +kernel, by decide +kernel⟩
def spDue : Sp := fun vs H Q _ => ∃ (a : LA) (s : MS) (n t : Nat) (r : Addr) (rq : Rq), vs = [.ref a.w, .int (t : Int), .ref r] ∧ LawAt H a s n ∧ WF s 1000 ∧ t < 2 ∧ RqAt H r rq ∧ RqOk rq ∧
  ∀ v H', Dt H' v (acc s n t rq).1 → AfterL H a (acc s n t rq).2 n H' → Q v H'
theorem ok_due (T : Txt w K mg) : FnOk P w K mg base CX0 2 T.due.f T.due.fd ["_law_w", "_law_thread", "_law_request_here"] spDue := by
  have GS : FnOk P w K mg base CX0 1 T.lShorten.f T.lShorten.fd ["_law_w", "_law_cell", "_law_steps"] _ := ok_lShorten T
  have GG : FnOk P w K mg base CX0 1 T.lGive.f T.lGive.fd ["_law_w", "_law_cell", "_law_value_here"] _ := ok_lGive T
  refine T.due.F.ok scDue (fun vs H Q E h => ?_) (fun cdv A outer s H vs Q E hr h => ?_)
  · obtain ⟨a, s, n, t, r, rq, rfl, _⟩ := h
    rfl
  · obtain ⟨a, st, n, t, r, rq, rfl, L, W, ht, hq, ho, kk⟩ := h
    have hu := hu_of hr
    refine ⟨_, pss_cons (ps_set (i := 3) scDue.nd rfl (Or.inl rfl) (pe_ix ix_tup (pv 2) pe_int (fun _ _ => rfl)))
      (pss_cons (ps_if (pt_cmpR op_eq (pv 3) pe_str (nomark _))
        (pss_cons (ps_set (i := 4) scDue.nd rfl (Or.inl rfl) (pe_callTy call_dictD (by rfl) T.bDict boot_dict' (pa_cons (pe_ix ix_list (pe_dget hu (pv 0) pe_str (fun _ _ => rfl)) (pv 1) (fun _ _ => rfl)) pa_nil)))
        (pss_cons (ps_asg pe_dnewK (pg_sub (pe_dget hu (pv 0) pe_str (fun _ _ => rfl)) (pv 1) set_list))
        (pss_cons (ps_for PassesOwn.never rfl (pi_list (pe_callB (call_sortedDI rfl) (by rfl) T.bSorted boot_sorted' (pa_cons (pv 4) pa_nil))) (pg_name (i := 5) scDue.nd rfl (Or.inl rfl))
          (pss_one (ps_expr (pe_call GS hr rfl T.lShorten.g T.lShorten.F.kp T.lShorten.b .nil pass0 (pa_cons (pv 0) (pa_cons (pv 5) (pa_cons (pe_dget hu (pv 4) (pv 5) (fun _ _ => rfl)) pa_nil)))))))
        (pss_one (ps_ret pe_non))))) pss_nil)
      (pss_cons (ps_set (i := 5) scDue.nd rfl (Or.inl rfl) (pe_ix ix_tup (pv 2) pe_int (fun _ _ => rfl)))
      (pss_cons (ps_set (i := 6) scDue.nd rfl (Or.inl rfl) (pe_ix ix_list (pe_ix ix_list (pe_dget hu (pv 0) pe_str (fun _ _ => rfl)) (pv 5) (fun _ _ => rfl)) (pe_un un_neg pe_int) (fun _ _ => rfl)))
      (pss_cons (ps_if (pt_cmpR op_eq (pv 3) pe_str (nomark _))
        (pss_cons (ps_dput hu (pe_ix ix_list (pe_dget hu (pv 0) pe_str (fun _ _ => rfl)) (pv 1) (fun _ _ => rfl)) (pv 5) (pe_op op_sub (pe_callB call_len_seq (by rfl) T.bLen PySem.boot_len (pa_cons (pe_ix ix_list (pe_dget hu (pv 0) pe_str (fun _ _ => rfl)) (pv 5) (fun _ _ => rfl)) pa_nil)) pe_int) rfl)
          (pss_one (ps_ret pe_non))) pss_nil)
      (pss_cons (ps_if (pt_cmpR op_eq (pv 3) pe_str (nomark _)) (pss_one (ps_ret (pv 6))) pss_nil)
      (pss_cons (ps_if (pt_cmpR op_eq (pv 3) pe_str (nomark _))
        (pss_cons (ps_expr (pe_call GG hr rfl T.lGive.g T.lGive.F.kp T.lGive.b .nil pass0 (pa_cons (pv 0) (pa_cons (pv 5) (pa_cons (pe_ix ix_tup (pv 2) pe_int (fun _ _ => rfl)) pa_nil))))) (pss_one (ps_ret pe_non))) pss_nil)
      (pss_cons (ps_if (pt_cmpR op_eq (pv 3) pe_str (nomark _))
        (pss_cons (ps_if (pt_cmpR (op_neD hr.units) (pv 6) (pe_ix ix_tup (pv 2) pe_int (fun _ _ => rfl)) (nomark _)) (pss_one (ps_ret pe_bl)) pss_nil)
        (pss_cons (ps_expr (pe_call GG hr rfl T.lGive.g T.lGive.F.kp T.lGive.b .nil pass0 (pa_cons (pv 0) (pa_cons (pv 5) (pa_cons (pe_ix ix_tup (pv 2) pe_int (fun _ _ => rfl)) pa_nil))))) (pss_one (ps_ret pe_bl)))) pss_nil)
      (pss_cons (ps_if (pt_cmpR (op_neD hr.units) (pv 6) pe_int (nomark _)) (pss_one (ps_ret pe_bl)) pss_nil)
      (pss_cons (ps_expr (pe_call GG hr rfl T.lGive.g T.lGive.F.kp T.lGive.b .nil pass0 (pa_cons (pv 0) (pa_cons (pv 5) (pa_cons (pe_tup (pa_cons (pe_ix ix_tup (pv 2) pe_int (fun _ _ => rfl)) (pa_cons (pe_dget hu (pv 0) pe_str (fun _ _ => rfl)) pa_nil))) pa_nil)))))
      (pss_one (ps_ret pe_bl))))))))))), ?_⟩
    cases hq with
    | fence hx =>
      refine ⟨_, rfl, r, _, _, _, rfl, rfl, SqT.of hx, atI_nat (j := 0) rfl, _, rfl, rfl, _, rfl, ?_⟩
      rw [strEq]
      refine iteT ?_
      have hi : t < st.nt.length := by rw [W.nl]; exact ht
      obtain ⟨b, hb, hbf, hD⟩ := L.co.ns_at hi
      have nok : NOk (st.nt.getD t []) := W.nk _ (getD_mem hi)
      have W1 : WF { st with nt := st.nt.set t [] } 1000 := W.setNote NOk.nil
      refine ⟨_, rfl, a.w, _, rfl, L.gn, _, rfl, a.co.nt, _, _, .ref b, rfl, rfl, SqL.of L.co.hnt, atI_nat (ref_at hb), b, _, rfl, .inl hD, fun e he => ?_⟩
      have s0 : Same H (upd H e (.dK (kv (st.nt.getD t [])))) := same_new he
      have L0 := L.same s0
      have hne : e ∉ a.fp := L.fresh he
      intro p hp
      have s1 : Same (upd H e (.dK (kv (st.nt.getD t [])))) (upd (upd H e (.dK (kv (st.nt.getD t [])))) p (.dK [])) := same_new hp
      obtain ⟨C1, S1⟩ := L0.co.newNote hi hp
      obtain ⟨L1, S1⟩ := L0.inner C1 S1 rfl rfl
      refine ⟨_, rfl, a.w, _, rfl, (L0.same s1).gn, _, rfl, a.co.nt, _, _, t, rfl, rfl, s1 _ _ L0.co.hnt, ixN_nat (by rw [List.length_map, L.co.ln]; exact hi), ?_⟩
      obtain ⟨hb1, hbn⟩ := S1.out (upd_same (H := H) (a := e)) hne
      generalize hH1 : upd (upd (upd H e (.dK (kv (st.nt.getD t [])))) p (.dK [])) a.co.nt (.lst ((a.co.ns.map V.ref).set t (.ref p))) = H1 at L1 S1 hb1 ⊢
      refine ⟨_, rfl, e, _, _, rfl, .inl hb1, keys_kv _, by rw [List.length_map]; exact Nat.lt_of_le_of_lt nok.few (by decide), fun ys q hperm hsort hq => ?_⟩
      have eys := keysS_ints hperm hsort
      subst eys
      have sm : Same H1 (upd H1 q (.lst (((keysS (st.nt.getD t [])).map fun c : Nat => (c : Int)).map V.int))) := same_new hq
      refine ⟨q, rfl, ⟨_, SqL.of upd_same⟩, for_list (K := K) (a := q) (xs := ((keysS (st.nt.getD t [])).map fun c : Nat => (c : Int)).map V.int)
        (fun i σ H' => ∃ (v : Option V) (a' : LA), σ = [some (.ref a.w), some (.int (t : Int)), some (.ref r), some (.str "fence"), some (.ref e), v, none] ∧ a'.w = a.w ∧
          LawAt H' a' (((keysS (st.nt.getD t [])).take i).foldl (fenceTurn (st.nt.getD t [])) { st with nt := st.nt.set t [] }) n ∧
          Step H1 ({ a with co := { a.co with ns := a.co.ns.set t p } } : LA).fp H' a'.fp ∧
          H' q = some (.lst (((keysS (st.nt.getD t [])).map fun c : Nat => (c : Int)).map V.int)) ∧ q ∉ a'.fp)
        ⟨none, { a with co := { a.co with ns := a.co.ns.set t p } }, rfl, rfl, L1.same sm, Step.same sm, upd_same, L1.fresh hq⟩ (fun i σ H' _ ⟨_, _, _, _, _, _, h, _⟩ => SqL.of h) ?_ ?_⟩
      · rintro i x σ H' hxi ⟨v, a', rfl, ep, L', S', hl', hqn⟩
        obtain ⟨c, hci, rfl⟩ := ints_at hxi
        have hck : c ∈ keysS (st.nt.getD t []) := List.mem_of_getElem? hci
        have hcl : c ∈ (st.nt.getD t []).map (·.1) := mem_keysS.mp hck
        obtain ⟨k, hk⟩ := look_of_key hcl
        have hc13 := keysS_lt nok c hck
        have hb' : H' e = some (.dK (kv (st.nt.getD t []))) := S'.keep e _ hb1 hbn
        have hg : DGet H' e (V.int (c : Int)) (some (V.int (k : Int))) := by
          have h1 := DGet.k (k := Sum.inl (c : Int)) hb'
          rw [valV_kv, hk] at h1
          exact h1
        have W' : WF (((keysS (st.nt.getD t [])).take i).foldl (fenceTurn (st.nt.getD t [])) { st with nt := st.nt.set t [] }) 1000 := W1.fenceLoop fun x hx => keysS_lt nok x (List.mem_of_mem_take hx)
        refine ⟨_, rfl, _, rfl, _, rfl, _, rfl, e, _, rfl, hg, a', _, n, c, k, by rw [ep]; rfl, L', W', hc13, fun H2 A2 => ?_⟩
        obtain ⟨a2, e2, L2, S2⟩ := A2
        obtain ⟨h2, hn2⟩ := S2.out hl' hqn
        refine ⟨_, a2, rfl, e2.trans ep, ?_, S'.trans S2, h2, hn2⟩
        rw [foldl_take _ _ hci]
        have : fenceTurn (st.nt.getD t []) (((keysS (st.nt.getD t [])).take i).foldl (fenceTurn (st.nt.getD t [])) { st with nt := st.nt.set t [] }) c = shorten (((keysS (st.nt.getD t [])).take i).foldl (fenceTurn (st.nt.getD t [])) { st with nt := st.nt.set t [] }) c k := by
          show shorten _ c ((look (st.nt.getD t []) c).getD 0) = _
          rw [hk]; rfl
        rw [this]
        exact L2
      · rintro σ H' ⟨v, a', rfl, ep, L', S', _, _⟩
        rw [List.length_map, List.length_map, List.take_length] at L'
        exact kk _ _ .non (AfterL.from_same s0 ⟨a', ep, L', S1.trans S'⟩)
    | @flush c hx =>
      have hc : c < 13 := ho.2
      have hi : c < st.tr.length := by rw [W.tl]; exact hc
      obtain ⟨b, hb, _, xs, hx2, dx⟩ := L.co.ms_at hi
      obtain ⟨v, hv, dv⟩ := dx.last (W.ne _ (W.at_mem hc))
      have hti : t < st.nt.length := by rw [W.nl]; exact ht
      obtain ⟨d, hd, _, hD⟩ := L.co.ns_at hti
      have nok : NOk (st.nt.getD t []) := W.nk _ (getD_mem hti)
      have hpos : 0 < (st.tr.getD c []).length := List.length_pos_iff.mpr (W.ne _ (W.at_mem hc))
      refine ⟨_, rfl, r, _, _, _, rfl, rfl, SqT.of hx, atI_nat (j := 0) rfl, _, rfl, rfl, _, rfl, ?_⟩
      rw [strNe (by decide +kernel)]
      refine iteF ?_
      refine ⟨_, rfl, r, _, _, _, rfl, rfl, SqT.of hx, atI_nat (j := 1) rfl, ?_⟩
      refine ⟨_, rfl, a.w, _, rfl, L.gt, _, rfl, a.co.tr, _, _, .ref b, rfl, rfl, SqL.of L.co.htr, atI_nat (ref_at hb), _, rfl, b, _, _, v, rfl, rfl, SqL.of hx2, atI_m1 hv, ?_⟩
      refine ⟨_, rfl, rfl, _, rfl, ?_⟩
      rw [strEq]
      refine iteT ?_
      refine ⟨_, rfl, a.w, _, rfl, L.gt, _, rfl, a.co.tr, _, _, .ref b, rfl, rfl, SqL.of L.co.htr, atI_nat (ref_at hb), b, _, rfl, .inl (SqL.of hx2), _, _, rfl, rfl, ?_⟩
      have el : ((xs.length : Nat) : Int) - 1 = (((st.tr.getD c []).length - 1 : Nat) : Int) := by rw [dx.length]; omega
      have hput : DPut H d (.int (c : Int)) (.int (((xs.length : Nat) : Int) - 1)) (upd H d (.dK (kv (put (st.nt.getD t []) c ((st.tr.getD c []).length - 1))))) := by
        rw [← putK_kv, el]
        exact DPut.k (k := Sum.inl (c : Int)) hD (by rw [kv_length]; exact lt_line (Nat.lt_of_le_of_lt nok.few (by decide)))
      refine ⟨_, rfl, a.w, _, rfl, L.gn, _, rfl, a.co.nt, _, _, .ref d, rfl, rfl, SqL.of L.co.hnt, atI_nat (ref_at hd), _, rfl, d, _, rfl, hput, ?_⟩
      obtain ⟨C2, S2⟩ := L.co.setNote (l := put (st.nt.getD t []) c ((st.tr.getD c []).length - 1)) hd
      obtain ⟨L2, S2⟩ := L.inner C2 S2 rfl rfl
      exact kk _ _ .non ⟨a, rfl, L2, S2⟩
    | @read c hx =>
      have hc : c < 13 := ho
      have hi : c < st.tr.length := by rw [W.tl]; exact hc
      obtain ⟨b, hb, _, xs, hx2, dx⟩ := L.co.ms_at hi
      obtain ⟨v, hv, dv⟩ := dx.last (W.ne _ (W.at_mem hc))
      refine ⟨_, rfl, r, _, _, _, rfl, rfl, SqT.of hx, atI_nat (j := 0) rfl, _, rfl, rfl, _, rfl, ?_⟩
      rw [strNe (by decide +kernel)]
      refine iteF ?_
      refine ⟨_, rfl, r, _, _, _, rfl, rfl, SqT.of hx, atI_nat (j := 1) rfl, ?_⟩
      refine ⟨_, rfl, a.w, _, rfl, L.gt, _, rfl, a.co.tr, _, _, .ref b, rfl, rfl, SqL.of L.co.htr, atI_nat (ref_at hb), _, rfl, b, _, _, v, rfl, rfl, SqL.of hx2, atI_m1 hv, ?_⟩
      refine ⟨_, rfl, rfl, _, rfl, ?_⟩
      rw [strNe (by decide +kernel)]
      refine iteF ?_
      refine ⟨_, rfl, rfl, _, rfl, ?_⟩
      rw [strEq]
      refine iteT ?_
      exact ⟨v, rfl, kk _ _ dv (AfterL.none L)⟩
    | @write c u d hx hd =>
      have hc : c < 13 := ho.1
      have hi : c < st.tr.length := by rw [W.tl]; exact hc
      obtain ⟨b, hb, _, xs, hx2, dx⟩ := L.co.ms_at hi
      obtain ⟨v, hv, dv⟩ := dx.last (W.ne _ (W.at_mem hc))
      refine ⟨_, rfl, r, _, _, _, rfl, rfl, SqT.of hx, atI_nat (j := 0) rfl, _, rfl, rfl, _, rfl, ?_⟩
      rw [strNe (by decide +kernel)]
      refine iteF ?_
      refine ⟨_, rfl, r, _, _, _, rfl, rfl, SqT.of hx, atI_nat (j := 1) rfl, ?_⟩
      refine ⟨_, rfl, a.w, _, rfl, L.gt, _, rfl, a.co.tr, _, _, .ref b, rfl, rfl, SqL.of L.co.htr, atI_nat (ref_at hb), _, rfl, b, _, _, v, rfl, rfl, SqL.of hx2, atI_m1 hv, ?_⟩
      refine ⟨_, rfl, rfl, _, rfl, ?_⟩
      rw [strNe (by decide +kernel)]
      refine iteF ?_
      refine ⟨_, rfl, rfl, _, rfl, ?_⟩
      rw [strNe (by decide +kernel)]
      refine iteF ?_
      refine ⟨_, rfl, rfl, _, rfl, ?_⟩
      rw [strEq]
      refine iteT ?_
      exact ⟨_, rfl, _, rfl, _, rfl, r, _, _, _, rfl, rfl, SqT.of hx, atI_nat (j := 2) rfl, a, st, n, c, u, d, rfl, L, W, hc, hd, fun H' A => kk _ _ .non A⟩
    | @swap c u x d e hx hd he =>
      have hc : c < 13 := ho.1
      have hi : c < st.tr.length := by rw [W.tl]; exact hc
      obtain ⟨b, hb, _, xs, hx2, dx⟩ := L.co.ms_at hi
      obtain ⟨v, hv, dv⟩ := dx.last (W.ne _ (W.at_mem hc))
      refine ⟨_, rfl, r, _, _, _, rfl, rfl, SqT.of hx, atI_nat (j := 0) rfl, _, rfl, rfl, _, rfl, ?_⟩
      rw [strNe (by decide +kernel)]
      refine iteF ?_
      refine ⟨_, rfl, r, _, _, _, rfl, rfl, SqT.of hx, atI_nat (j := 1) rfl, ?_⟩
      refine ⟨_, rfl, a.w, _, rfl, L.gt, _, rfl, a.co.tr, _, _, .ref b, rfl, rfl, SqL.of L.co.htr, atI_nat (ref_at hb), _, rfl, b, _, _, v, rfl, rfl, SqL.of hx2, atI_m1 hv, ?_⟩
      refine ⟨_, rfl, rfl, _, rfl, ?_⟩
      rw [strNe (by decide +kernel)]
      refine iteF ?_
      refine ⟨_, rfl, rfl, _, rfl, ?_⟩
      rw [strNe (by decide +kernel)]
      refine iteF ?_
      refine ⟨_, rfl, rfl, _, rfl, ?_⟩
      rw [strNe (by decide +kernel)]
      refine iteF ?_
      refine ⟨_, rfl, rfl, _, rfl, ?_⟩
      rw [strEq]
      refine iteT ?_
      refine ⟨_, rfl, _, rfl, r, _, _, _, rfl, rfl, SqT.of hx, atI_nat (j := 2) rfl, lastD (st.tr.getD c []), d, dv.dp, hd.dp, (W.last hc).shaped, ho.2.1.shaped, _, rfl, ?_⟩
      cases eq : PyData.eqv (lastD (st.tr.getD c [])) d with
      | false =>
        have ea : acc st n t (.swap c d e) = (.bool false, st) := if_neg (by rw [eq]; exact Bool.false_ne_true)
        rw [ea] at kk
        refine iteT ?_
        exact kk _ _ (.bl false) (AfterL.none L)
      | true =>
        have ea : acc st n t (.swap c d e) = (.bool true, give st c e) := if_pos eq
        rw [ea] at kk
        refine iteF ?_
        exact ⟨_, rfl, _, rfl, _, rfl, r, _, _, _, rfl, rfl, SqT.of hx, atI_nat (j := 3) rfl, a, st, n, c, x, e, rfl, L, W, hc, he, fun H' A => kk _ _ (.bl true) A⟩
    | @dec c x hx =>
      have hc : c < 13 := ho.1
      have hi : c < st.tr.length := by rw [W.tl]; exact hc
      obtain ⟨b, hb, _, xs, hx2, dx⟩ := L.co.ms_at hi
      obtain ⟨v, hv, dv⟩ := dx.last (W.ne _ (W.at_mem hc))
      refine ⟨_, rfl, r, _, _, _, rfl, rfl, SqT.of hx, atI_nat (j := 0) rfl, _, rfl, rfl, _, rfl, ?_⟩
      rw [strNe (by decide +kernel)]
      refine iteF ?_
      refine ⟨_, rfl, r, _, _, _, rfl, rfl, SqT.of hx, atI_nat (j := 1) rfl, ?_⟩
      refine ⟨_, rfl, a.w, _, rfl, L.gt, _, rfl, a.co.tr, _, _, .ref b, rfl, rfl, SqL.of L.co.htr, atI_nat (ref_at hb), _, rfl, b, _, _, v, rfl, rfl, SqL.of hx2, atI_m1 hv, ?_⟩
      refine ⟨_, rfl, rfl, _, rfl, ?_⟩
      rw [strNe (by decide +kernel)]
      refine iteF ?_
      refine ⟨_, rfl, rfl, _, rfl, ?_⟩
      rw [strNe (by decide +kernel)]
      refine iteF ?_
      refine ⟨_, rfl, rfl, _, rfl, ?_⟩
      rw [strNe (by decide +kernel)]
      refine iteF ?_
      refine ⟨_, rfl, rfl, _, rfl, ?_⟩
      rw [strNe (by decide +kernel)]
      refine iteF ?_
      refine ⟨_, rfl, lastD (st.tr.getD c []), .int 0, dv.dp, .int 0, (W.last hc).shaped, (Gd.int 0).shaped, _, rfl, ?_⟩
      cases eq : PyData.eqv (lastD (st.tr.getD c [])) (.int 0) with
      | false =>
        have ea : acc st n t (.decide c x) = (.bool false, st) := if_neg (by rw [eq]; exact Bool.false_ne_true)
        rw [ea] at kk
        refine iteT ?_
        exact kk _ _ (.bl false) (AfterL.none L)
      | true =>
        have ea : acc st n t (.decide c x) = (.bool true, give st c (.tuple [.str x, .int n])) := if_pos eq
        rw [ea] at kk
        refine iteF ?_
        refine ⟨_, rfl, _, rfl, _, rfl, r, _, _, _, rfl, rfl, SqT.of hx, atI_nat (j := 2) rfl, _, rfl, a.w, _, rfl, L.gc, le_line (by simp), fun p hp => ?_⟩
        have sm : Same H (upd H p (.tup [.str x, .int (n : Int)])) := same_new hp
        refine ⟨a, st, n, c, .ref p, .tuple [.str x, .int n], rfl, L.same sm, W, hc, .tup upd_same (.cons (.str x) (.cons (.int n) .nil)), fun H' A => ?_⟩
        exact kk _ _ (.bl true) (AfterL.from_same sm A)
end
end DK

/-! The law's own cut; its requests; what it looks at. -/
namespace DK
open PySem L2
theorem wk_put_notes {n : Nat} {tr nt q : Addr} : putK (wk n tr nt) (Sum.inr ("notes" : Str) : Key) (.ref q) = wk n tr q := by
  have e1 : decide ((Sum.inr ("count" : Str) : Key) = Sum.inr ("notes" : Str)) = false := by decide +kernel
  have e2 : decide ((Sum.inr ("trails" : Str) : Key) = Sum.inr ("notes" : Str)) = false := by decide +kernel
  have n1 : ¬ ((Sum.inr ("count" : Str) : Key) = Sum.inr ("notes" : Str)) := of_decide_eq_false e1
  have n2 : ¬ ((Sum.inr ("trails" : Str) : Key) = Sum.inr ("notes" : Str)) := of_decide_eq_false e2
  unfold putK wk
  rw [if_pos (by simp only [List.any_cons, e1, e2, decide_true, Bool.or_true, Bool.true_or, Bool.false_or])]
  simp only [List.map_cons, List.map_nil, if_neg n1, if_neg n2, if_true]
theorem wk_put_count {n : Nat} {tr nt : Addr} : putK (wk n tr nt) (Sum.inr ("count" : Str) : Key) (.int ((n : Int) + 1)) = wk (n + 1) tr nt := by
  have e1 : decide ((Sum.inr ("trails" : Str) : Key) = Sum.inr ("count" : Str)) = false := by decide +kernel
  have e2 : decide ((Sum.inr ("notes" : Str) : Key) = Sum.inr ("count" : Str)) = false := by decide +kernel
  have n1 : ¬ ((Sum.inr ("trails" : Str) : Key) = Sum.inr ("count" : Str)) := of_decide_eq_false e1
  have n2 : ¬ ((Sum.inr ("notes" : Str) : Key) = Sum.inr ("count" : Str)) := of_decide_eq_false e2
  unfold putK wk
  rw [if_pos (by simp only [List.any_cons, decide_true, Bool.true_or])]
  simp only [List.map_cons, List.map_nil, if_neg n1, if_neg n2, if_true]
  rfl
/-- new notes, both parts -/
theorem CoAt.newNotes {H H1 : Hp} {c : Co} {s : MS} {q d0 d1 : Addr} (C : CoAt H c s) (N : New2 H q d0 d1 H1) :
    CoAt H1 { c with nt := q, ns := [d0, d1] } { s with nt := [[], []] } ∧ Step H c.fp H1 ({ c with nt := q, ns := [d0, d1] } : Co).fp := by
  obtain ⟨c1, c2, c3, c4, c5, c6, c7, c8⟩ := C.parts
  have fp_ : ∀ b, b ∉ c.fp → b ≠ c.tr ∧ b ∉ c.ms := fun b hb => by
    unfold Co.fp at hb
    simp only [List.mem_cons, List.mem_append, not_or] at hb
    exact ⟨hb.1, hb.2.2.1⟩
  obtain ⟨q4, q5⟩ := fp_ q (C.fresh N.fq)
  obtain ⟨r4, r5⟩ := fp_ d0 (C.fresh N.f0)
  obtain ⟨s4, s5⟩ := fp_ d1 (C.fresh N.f1)
  refine ⟨⟨?_, N.sm _ _ C.htr, N.hq, C.lm, rfl, fun i a ha => ?_, fun i a ha => ?_⟩, ⟨fun b o e _ => N.sm b o e, fun b hb => ?_, Tups.of_same N.sm⟩⟩
  · show (c.tr :: q :: (c.ms ++ [d0, d1])).Nodup
    simp only [List.nodup_cons, List.mem_cons, List.mem_append, List.not_mem_nil, or_false, not_or]
    refine ⟨⟨q4.symm, c2, r4.symm, s4.symm⟩, ⟨q5, N.n0.symm, N.n1.symm⟩, ?_⟩
    rw [List.nodup_append]
    refine ⟨c6, by simp [N.ne], fun a ha b hb e => ?_⟩
    subst e
    have hb' : a = d0 ∨ a = d1 := by simpa using hb
    rcases hb' with e | e
    · subst e; exact r5 ha
    · subst e; exact s5 ha
  · obtain ⟨xs, h, d⟩ := C.hm i a ha
    exact ⟨xs, N.sm _ _ h, d.to (Tups.of_same N.sm)⟩
  · have ha' : [d0, d1][i]? = some a := ha
    match i, ha' with
    | 0, e => cases e; exact N.h0
    | 1, e => cases e; exact N.h1
    | j + 2, e => cases e
  · have hb' : b ∈ c.tr :: q :: (c.ms ++ [d0, d1]) := hb
    unfold Co.fp
    simp only [List.mem_cons, List.mem_append, List.not_mem_nil, or_false] at hb' ⊢
    rcases hb' with e | e | e | e | e
    · exact .inl (.inl e)
    · exact .inr (by rw [e]; exact N.fq)
    · exact .inl (.inr (.inr (.inl e)))
    · exact .inr (by rw [e]; exact N.f0)
    · exact .inr (by rw [e]; exact N.f1)
/-- the law's dict gets new contents, its lists as they are -/
theorem LawAt.reput {H H1 : Hp} {a : LA} {s s' : MS} {n n' : Nat} {c' : Co} (L : LawAt H a s n) (C : CoAt H1 c' s') (t : Step H a.co.fp H1 c'.fp) :
    LawAt (upd H1 a.w (.dK (wk n' c'.tr c'.nt))) { a with co := c' } s' n' ∧ Step H a.fp (upd H1 a.w (.dK (wk n' c'.tr c'.nt))) ({ a with co := c' } : LA).fp := by
  have nw : a.w ∉ a.co.fp := (List.nodup_cons.mp L.nd).1
  obtain ⟨q1, q2⟩ := t.out L.hw nw
  have tp : Tups H1 (upd H1 a.w (.dK (wk n' c'.tr c'.nt))) := Tups.upd_of fun xs e => by rw [q1] at e; cases e
  have C2 : CoAt (upd H1 a.w (.dK (wk n' c'.tr c'.nt))) c' s' := C.move (fun b hb => upd_ne fun e => q2 (by rw [← e]; exact hb)) tp
  refine ⟨⟨List.nodup_cons.mpr ⟨q2, C.nd⟩, upd_same, C2⟩, ⟨fun b o e hb => ?_, fun b hb => ?_, t.tups.trans tp⟩⟩
  · rw [upd_ne (fun z => hb (by rw [z]; exact List.mem_cons_self))]
    exact t.keep b o e fun z => hb (LA.sub z)
  · rcases List.mem_cons.mp (show b ∈ a.w :: c'.fp from hb) with e | e
    · exact .inl (by rw [e]; exact List.mem_cons_self)
    · exact (t.new b e).imp LA.sub id
section
variable {P : Program} {w : World} {K : PySem.W.Frag} {mg : Str → Option Value} {base : Heap}
/-! ### cut -/
theorem scLCut : FnScope ["_law_w", "_law_choices", "_law_cell"] ["_law_w", "_law_choices"] (defScope sLCut) := ⟨rfl, rfl, rfl, by decide +kernel, rfl, by decide +kernel, by decide +kernel⟩
def spLCut : Sp := fun vs H Q _ => ∃ (a : LA) (s : MS) (n : Nat) (x : Addr) (ch : List Nat), vs = [.ref a.w, .ref x] ∧ LawAt H a s n ∧ WF s 1000 ∧ H x = some (.lst (ch.map fun k : Nat => V.int (k : Int))) ∧ x ∉ a.fp ∧
  ∀ H', AfterL H a (cut s ch) n H' → Q .non H'
/-- w['trails'][c] = [v], c a written number -/
theorem rd_one {H : Hp} {a : LA} {s : MS} {n c : Nat} {σ : St} {D : Ends} {v : V} {d : PyData} (L : LawAt H a s n) (hc : c < s.tr.length) (h0 : σ[0]? = some (some (.ref a.w))) (hd : Dt H v d)
    (k : ∀ H', AfterL H a { s with tr := s.tr.set c [d] } n H' → D.nx σ H') :
    tAsg (tLst (tCons (tC v) tNil)) (gSub (tDGet (tVar 0) (tC (.str "trails"))) (tC (.int (c : Int))) rSetL) D σ H := by
  refine ⟨le_line (by simp), fun p hp => ?_⟩
  have sm : Same H (upd H p (.lst [v])) := same_new hp
  obtain ⟨C1, S1⟩ := L.co.setNew (xs := [v]) (ds := [d]) hc hp (DtAll.one hd)
  obtain ⟨L1, S1⟩ := L.inner C1 S1 rfl rfl
  refine ⟨_, h0, a.w, _, rfl, (L.same sm).gt, a.co.tr, _, _, c, rfl, rfl, sm _ _ L.co.htr, ixN_nat (by rw [List.length_map, L.co.lm]; exact hc), ?_⟩
  exact k _ ⟨{ a with co := { a.co with ms := a.co.ms.set c p } }, rfl, L1, S1⟩
/-- w['trails'][c] = w['trails'][c][:1] -/
theorem rd_take1L {H : Hp} {a : LA} {s : MS} {n c i : Nat} {σ : St} {D : Ends} (L : LawAt H a s n) (hc : c < s.tr.length) (hl : (s.tr.getD c []) ≠ [])
    (h0 : σ[0]? = some (some (.ref a.w))) (hi : σ[i]? = some (some (.int (c : Int))))
    (k : ∀ H', AfterL H a { s with tr := s.tr.set c ((s.tr.getD c []).take 1) } n H' → D.nx σ H') :
    tAsg (tSl (rSlL K) (tOp (rIxL K) (tDGet (tVar 0) (tC (.str "trails"))) (tVar i)) tNoPart (tPart (tC (.int 1)))) (gSub (tDGet (tVar 0) (tC (.str "trails"))) (tVar i) rSetL) D σ H := by
  obtain ⟨b, hb, _, xs, hx, dx⟩ := L.co.ms_at hc
  have hlen : 1 ≤ xs.length := by rw [dx.length]; exact List.length_pos_iff.mpr hl
  refine ⟨_, h0, a.w, _, rfl, L.gt, _, hi, a.co.tr, _, _, .ref b, rfl, rfl, SqL.of L.co.htr, atI_nat (ref_at hb), 1, rfl, b, _, rfl, SqL.of hx, fun p hp => ?_⟩
  rw [show (some (1 : Int) : Option Int) = some ((1 : Nat) : Int) from rfl, cut_take hlen]
  have sm : Same H (upd H p (.lst (xs.take 1))) := same_new hp
  obtain ⟨C1, S1⟩ := L.co.setNew (xs := xs.take 1) (ds := (s.tr.getD c []).take 1) hc hp (dx.take _)
  obtain ⟨L1, S1⟩ := L.inner C1 S1 rfl rfl
  refine ⟨_, h0, a.w, _, rfl, (L.same sm).gt, _, hi, a.co.tr, _, _, c, rfl, rfl, sm _ _ L.co.htr, ixN_nat (by rw [List.length_map, L.co.lm]; exact hc), ?_⟩
  exact k _ ⟨{ a with co := { a.co with ms := a.co.ms.set c p } }, rfl, L1, S1⟩
theorem ok_lCut (T : Txt w K mg) : FnOk P w K mg base CX0 2 T.lCut.f T.lCut.fd ["_law_w", "_law_choices"] spLCut := by
  have GS : FnOk P w K mg base CX0 1 T.lShorten.f T.lShorten.fd ["_law_w", "_law_cell", "_law_steps"] _ := ok_lShorten T
  refine T.lCut.F.ok scLCut (fun vs H Q E h => ?_) (fun cdv A outer s H vs Q E hr h => ?_)
  · obtain ⟨a, s, n, x, ch, rfl, _⟩ := h
    rfl
  · obtain ⟨a, st, n, x, ch, rfl, L, W, hx, hxn, kk⟩ := h
    have hu := hu_of hr
    refine ⟨_, pss_cons (ps_for PassesOwn.never rfl (pi_range2 (by rfl) T.bRange (pa_cons pe_int (pa_cons pe_int pa_nil))) (pg_name (i := 2) scLCut.nd rfl (Or.inl rfl))
        (pss_cons (ps_if (pt_cmpR op_lt (pe_op op_sub (pv 2) pe_int) (pe_callB call_len_seq (by rfl) T.bLen PySem.boot_len (pa_cons (pv 1) pa_nil)) (nomark _))
          (pss_one (ps_expr (pe_call GS hr rfl T.lShorten.g T.lShorten.F.kp T.lShorten.b .nil pass0 (pa_cons (pv 0) (pa_cons (pv 2) (pa_cons (pe_ix ix_list (pv 1) (pe_op op_sub (pv 2) pe_int) (fun _ _ => rfl)) pa_nil)))))) pss_nil)
        (pss_one (ps_asg (pe_slice sl_list (pe_ix ix_list (pe_dget hu (pv 0) pe_str (fun _ _ => rfl)) (pv 2) (fun _ _ => rfl)) po_none (po_some pe_int)) (pg_sub (pe_dget hu (pv 0) pe_str (fun _ _ => rfl)) (pv 2) set_list)))))
      (pss_cons (ps_asg (pe_lst (pa_cons pe_int pa_nil)) (pg_sub (pe_dget hu (pv 0) pe_str (fun _ _ => rfl)) pe_int set_list))
      (pss_cons (ps_asg (pe_lst (pa_cons pe_non pa_nil)) (pg_sub (pe_dget hu (pv 0) pe_str (fun _ _ => rfl)) pe_int set_list))
      (pss_cons (ps_asg (pe_lst (pa_cons pe_non pa_nil)) (pg_sub (pe_dget hu (pv 0) pe_str (fun _ _ => rfl)) pe_int set_list))
      (pss_one (ps_dput hu (pv 0) pe_str (pe_lst (pa_cons pe_dnewK (pa_cons pe_dnewK pa_nil))) rfl))))), ?_⟩
    refine ⟨3, 13, rfl, ⟨by decide, by decide, by decide, by decide⟩, ?_⟩
    refine for_range (lo := 3) (n := ((13 : Int) - 3).toNat) (fun i σ H' => ∃ (v : Option V) (a' : LA), σ = [some (.ref a.w), some (.ref x), v] ∧ a'.w = a.w ∧ LawAt H' a' (cutLoop ch st i) n ∧ Step H a.fp H' a'.fp ∧
        H' x = some (.lst (ch.map fun k : Nat => V.int (k : Int))) ∧ x ∉ a'.fp)
      ⟨none, a, rfl, rfl, L, Step.refl _ _, hx, hxn⟩ ?_ ?_
    · rintro i σ H' hi ⟨v, a', rfl, ep, L', S', ha', hn'⟩
      have hi10 : i < 10 := hi
      have W' : WF (cutLoop ch st i) 1000 := W.cutLoop ch i (by omega)
      have hlen : (((ch.map fun k : Nat => V.int (k : Int)).length : Nat) : Int) = (ch.length : Int) := by rw [List.length_map]
      refine ⟨_, rfl, _, _, rfl, rfl, _, rfl, x, _, rfl, .inl (SqL.of ha'), _, _, rfl, rfl, _, rfl, ?_⟩
      refine ite2 (fun h1 => ?_) (fun h1 => ?_)
      · have h1' := of_decide_eq_true h1
        have hlt : i < ch.length := by rw [hlen] at h1'; omega
        have hk : ch[i]? = some ch[i] := List.getElem?_eq_getElem hlt
        refine ⟨_, rfl, _, rfl, _, rfl, _, rfl, _, _, rfl, rfl, x, _, _, .int ((ch[i] : Nat) : Int), rfl, rfl, SqL.of ha', ?_, a', cutLoop ch st i, n, 3 + i, ch[i], by rw [ep]; rfl, L', W', by omega, fun H1 A1 => ?_⟩
        · rw [show (3 : Int) + (i : Int) - 3 = (i : Int) by omega]
          exact atI_nat (by rw [List.getElem?_map, hk]; rfl)
        · obtain ⟨a1, e1, L1, S1⟩ := A1
          obtain ⟨ha1, hn1⟩ := S1.out ha' hn'
          have W1 : WF (shorten (cutLoop ch st i) (3 + i) ch[i]) 1000 := W'.shorten (by omega) _
          refine rd_take1L (c := 3 + i) L1 (by rw [W1.tl]; omega) (W1.ne _ (W1.at_mem (by omega))) (by rw [e1, ep]; rfl) rfl fun H2 A2 => ?_
          obtain ⟨a2, e2, L2, S2⟩ := A2
          obtain ⟨ha2, hn2⟩ := S2.out ha1 hn1
          refine ⟨_, a2, rfl, e2.trans (e1.trans ep), ?_, (S'.trans S1).trans S2, ha2, hn2⟩
          rw [cutLoop_succ, cutTurn_at, hk]
          exact L2
      · have h1' : ¬ ((3 : Int) + (i : Int) - 3 < (((ch.map fun k : Nat => V.int (k : Int)).length : Nat) : Int)) := fun q => h1 (decide_eq_true q)
        have hge : ch.length ≤ i := by rw [hlen] at h1'; omega
        have hk : ch[i]? = none := List.getElem?_eq_none hge
        refine rd_take1L (c := 3 + i) L' (by rw [W'.tl]; omega) (W'.ne _ (W'.at_mem (by omega))) (by rw [ep]; rfl) rfl fun H2 A2 => ?_
        obtain ⟨a2, e2, L2, S2⟩ := A2
        obtain ⟨ha2, hn2⟩ := S2.out ha' hn'
        refine ⟨_, a2, rfl, e2.trans ep, ?_, S'.trans S2, ha2, hn2⟩
        rw [cutLoop_succ, cutTurn_at, hk]
        exact L2
    · rintro σ H2 ⟨v, a', rfl, ep, L', S', _, _⟩
      have L' : LawAt H2 a' (cutLoop ch st 10) n := L'
      have W' : WF (cutLoop ch st 10) 1000 := W.cutLoop ch 10 (Nat.le_refl _)
      have ht : (cutLoop ch st 10).tr.length = 13 := W'.tl
      refine rd_one (c := 0) (v := .int 0) L' (by rw [ht]; decide) (by rw [ep]; rfl) (.int 0) fun H3 A3 => ?_
      obtain ⟨a3, e3, L3, S3⟩ := A3
      refine rd_one (c := 1) (v := .non) L3 (by show 1 < (List.set _ _ _).length; rw [List.length_set, ht]; decide) (by rw [e3, ep]; rfl) .non fun H4 A4 => ?_
      obtain ⟨a4, e4, L4, S4⟩ := A4
      refine rd_one (c := 2) (v := .non) L4 (by show 2 < (List.set (List.set _ _ _) _ _).length; rw [List.length_set, List.length_set, ht]; decide) (by rw [e4, e3, ep]; rfl) .non fun H5 A5 => ?_
      obtain ⟨a5, e5, L5, S5⟩ := A5
      have ew : a5.w = a.w := e5.trans (e4.trans (e3.trans ep))
      intro d0 h0 d1 h1
      refine ⟨le_line (by simp), fun q hq => ?_⟩
      have s1 : Same H5 (upd H5 d0 (.dK [])) := same_new h0
      have s2 : Same (upd H5 d0 (.dK [])) (upd (upd H5 d0 (.dK [])) d1 (.dK [])) := same_new h1
      have s3 : Same (upd (upd H5 d0 (.dK [])) d1 (.dK [])) (upd (upd (upd H5 d0 (.dK [])) d1 (.dK [])) q (.lst [.ref d0, .ref d1])) := same_new hq
      have N : New2 H5 q d0 d1 (upd (upd (upd H5 d0 (.dK [])) d1 (.dK [])) q (.lst [.ref d0, .ref d1])) :=
        ⟨(s1.trans s2).trans s3, (s1.trans s2).free hq, h0, s1.free h1, ne_of_none upd_same h1, ne_of_none (s2 _ _ upd_same) hq, ne_of_none upd_same hq, upd_same, s3 _ _ (s2 _ _ upd_same), s3 _ _ upd_same⟩
      obtain ⟨C6, S6⟩ := L5.co.newNotes N
      obtain ⟨L6, S6⟩ := L5.reput (n' := n) C6 S6
      have hw6 := (L5.same N.sm).hw
      rw [ew] at hw6
      refine ⟨_, rfl, a.w, _, rfl, DPut.k (k := Sum.inr "notes") hw6 (by show 3 < sizeLine; exact lt_line (by decide)), ?_⟩
      rw [wk_put_notes]
      have e7 : ({ tr := ((((cutLoop ch st 10).tr.set 0 [PyData.int 0]).set 1 [.none]).set 2 [.none]), nt := [[], []] } : MS) = cut st ch := rfl
      have A7 : AfterL H a (cut st ch) n (upd (upd (upd (upd H5 d0 (.dK [])) d1 (.dK [])) q (.lst [.ref d0, .ref d1])) a5.w (.dK (wk n a5.co.tr q))) :=
        ⟨{ a5 with co := { a5.co with nt := q, ns := [d0, d1] } }, ew, L6, (((S'.trans S3).trans S4).trans S5).trans S6⟩
      rw [ew] at A7
      exact kk _ A7
end
end DK

/-! The law's requests; what it looks at. -/
namespace DK
open PySem L2
section
variable {P : Program} {w : World} {K : PySem.W.Frag} {mg : Str → Option Value} {base : Heap}
/-! ### request -/
theorem scRequest : FnScope ["_law_w", "_law_number", "_law_pick", "_law_other", "_law_cell", "_law_kind", "_law_old"] ["_law_w", "_law_number", "_law_pick", "_law_other"] (defScope sRequest) := ⟨rfl, rfl, rfl, by decide +kernel, rfl, by decide +kernel, by decide +kernel⟩
def spRequest : Sp := fun vs H Q _ => ∃ (a : LA) (s : MS) (n : Nat) (i j k : Int), vs = [.ref a.w, .int i, .int j, .int k] ∧ LawAt H a s n ∧ WF s 1000 ∧
  ∀ r rq H', Same H H' → RqAt H' r rq → RqOk rq → Q (.ref r) H'
theorem ok_request (T : Txt w K mg) : FnOk P w K mg base CX0 2 T.request.f T.request.fd ["_law_w", "_law_number", "_law_pick", "_law_other"] spRequest := by
  have GV : FnOk P w K mg base CX0 1 T.value.f T.value.fd ["_law_number"] _ := ok_value T
  refine T.request.F.ok scRequest (fun vs H Q E h => ?_) (fun cdv A outer s H vs Q E hr h => ?_)
  · obtain ⟨a, s, n, i, j, k, rfl, _⟩ := h
    rfl
  · obtain ⟨a, st, n, i, j, k, rfl, L, W, kk⟩ := h
    have hu := hu_of hr
    refine ⟨_, pss_cons (ps_set (i := 4) scRequest.nd rfl (Or.inl rfl) (pe_ix ix_list (pe_lst (pa_cons pe_int (pa_cons pe_int (pa_cons pe_int (pa_cons pe_int (pa_cons pe_int (pa_cons pe_int (pa_cons pe_int (pa_cons pe_int
        (pa_cons (pe_op op_add pe_int (pe_op op_mod (pv 2) pe_int)) pa_nil)))))))))) (pe_op op_mod (pv 2) pe_int) (fun _ _ => rfl)))
      (pss_cons (ps_set (i := 5) scRequest.nd rfl (Or.inl rfl) (pe_op op_mod (pv 1) pe_int))
      (pss_cons (ps_if (pt_cmpR op_lt (pv 5) pe_int (nomark _)) (pss_one (ps_ret (pe_tup (pa_cons pe_str (pa_cons (pv 4) (pa_cons (pe_call GV hr rfl T.value.g T.value.F.kp T.value.b .nil pass0 (pa_cons (pv 3) pa_nil)) pa_nil)))))) pss_nil)
      (pss_cons (ps_if (pt_cmpR op_eq (pv 5) pe_int (nomark _))
        (pss_cons (ps_set (i := 6) scRequest.nd rfl (Or.inl rfl) (pe_ix ix_list (pe_ix ix_list (pe_dget hu (pv 0) pe_str (fun _ _ => rfl)) (pv 4) (fun _ _ => rfl)) (pe_un un_neg pe_int) (fun _ _ => rfl)))
        (pss_cons (ps_if (pt_cmpR op_eq (pe_op op_mod (pv 3) pe_int) pe_int (nomark _)) (pss_one (ps_set (i := 6) scRequest.nd rfl (Or.inl rfl) (pe_call GV hr rfl T.value.g T.value.F.kp T.value.b .nil pass0 (pa_cons (pe_op op_fdiv (pv 3) pe_int) pa_nil)))) pss_nil)
        (pss_one (ps_ret (pe_tup (pa_cons pe_str (pa_cons (pv 4) (pa_cons (pv 6) (pa_cons (pe_call GV hr rfl T.value.g T.value.F.kp T.value.b .nil pass0 (pa_cons (pe_op op_fdiv (pv 3) pe_int) pa_nil)) pa_nil))))))))) pss_nil)
      (pss_cons (ps_if (pt_cmpR op_eq (pv 5) pe_int (nomark _)) (pss_one (ps_ret (pe_tup (pa_cons pe_str (pa_cons (pv 4) (pa_cons (pe_ix ix_list (pe_lst (pa_cons pe_str (pa_cons pe_str pa_nil))) (pe_op op_mod (pv 3) pe_int) (fun _ _ => rfl)) pa_nil)))))) pss_nil)
      (pss_cons (ps_if (pt_cmpR op_eq (pv 5) pe_int (nomark _)) (pss_one (ps_ret (pe_tup (pa_cons pe_str (pa_cons (pv 4) pa_nil))))) pss_nil)
      (pss_cons (ps_if (pt_cmpR op_lt (pv 5) pe_int (nomark _)) (pss_one (ps_ret (pe_tup (pa_cons pe_str (pa_cons (pe_callB (call_max2 rfl) (by rfl) T.bMax boot_max' (pa_cons pe_int (pa_cons (pv 4) pa_nil))) pa_nil))))) pss_nil)
      (pss_one (ps_ret (pe_tup (pa_cons pe_str pa_nil)))))))))), ?_⟩
    obtain ⟨j5, e5, h5⟩ := mod_nat (n := j) (m := 5) (by decide)
    obtain ⟨j9, e9, h9⟩ := mod_nat (n := j) (m := 9) (by decide)
    refine ⟨_, rfl, _, _, rfl, rfl, (by show (0 : Int) < 5; decide), _, _, rfl, rfl, le_line (by simp), fun l hl => ?_⟩
    obtain ⟨c, hc, h13⟩ : ∃ c : Nat, ([.int 5, .int 6, .int 7, .int 3, .int 5, .int 6, .int 0, .int 1, .int (8 + j % 5)] : List V)[j9]? = some (.int (c : Int)) ∧ c < 13 := by
      match j9, h9 with
      | 0, _ => exact ⟨5, rfl, by decide⟩
      | 1, _ => exact ⟨6, rfl, by decide⟩
      | 2, _ => exact ⟨7, rfl, by decide⟩
      | 3, _ => exact ⟨3, rfl, by decide⟩
      | 4, _ => exact ⟨5, rfl, by decide⟩
      | 5, _ => exact ⟨6, rfl, by decide⟩
      | 6, _ => exact ⟨0, rfl, by decide⟩
      | 7, _ => exact ⟨1, rfl, by decide⟩
      | 8, _ =>
        refine ⟨8 + j5, ?_, by omega⟩
        show some (V.int (8 + j % 5)) = _
        have e5' : j % 5 = (j5 : Int) := e5
        rw [e5', Int.natCast_add]; rfl
      | m + 9, h => omega
    refine ⟨_, rfl, _, _, rfl, rfl, (by show (0 : Int) < 9; decide), l, _, _, .int (c : Int), rfl, rfl, SqL.of upd_same, (by rw [show j % 9 = (j9 : Int) from e9]; exact atI_nat hc), ?_⟩
    have s0 : Same H (upd H l (.lst [.int 5, .int 6, .int 7, .int 3, .int 5, .int 6, .int 0, .int 1, .int (8 + j % 5)])) := same_new hl
    generalize hH0 : upd H l (.lst [.int 5, .int 6, .int 7, .int 3, .int 5, .int 6, .int 0, .int 1, .int (8 + j % 5)]) = H0 at s0 ⊢
    have L0 := L.same s0
    have hi : c < st.tr.length := by rw [W.tl]; exact h13
    refine ⟨_, rfl, _, _, rfl, rfl, (by show (0 : Int) < 10; decide), ?_⟩
    refine ⟨_, rfl, _, _, rfl, rfl, _, rfl, ?_⟩
    refine ite2 (fun h1 => ?_) (fun h1 => ?_)
    · -- write
      refine ⟨_, rfl, _, rfl, k, rfl, fun v d H1 s1 dv gd => ?_⟩
      refine ⟨le_line (by simp), fun p hp => ?_⟩
      have s2 : Same H1 (upd H1 p (.tup [.str "write", .int (c : Int), v])) := same_new hp
      exact kk p (.write c d) _ ((s0.trans s1).trans s2) (.write upd_same (dv.to (Tups.of_same s2))) ⟨h13, gd⟩
    refine ⟨_, rfl, rfl, _, rfl, ?_⟩
    refine ite2 (fun h2 => ?_) (fun h2 => ?_)
    · -- swap
      obtain ⟨b, hb, _, xs, hx2, dx⟩ := L0.co.ms_at hi
      obtain ⟨v, hv, dv⟩ := dx.last (W.ne _ (W.at_mem h13))
      have gv := W.last h13
      refine ⟨_, rfl, a.w, _, rfl, L0.gt, _, rfl, a.co.tr, _, _, .ref b, rfl, rfl, SqL.of L0.co.htr, atI_nat (ref_at hb), _, rfl, b, _, _, v, rfl, rfl, SqL.of hx2, atI_m1 hv, ?_⟩
      refine ⟨_, rfl, _, _, rfl, rfl, (by show (0 : Int) < 3; decide), rfl, _, rfl, ?_⟩
      refine ite2 (fun h3 => ?_) (fun h3 => ?_)
      · refine ⟨_, rfl, _, _, rfl, rfl, ⟨by decide, by decide⟩, _, rfl, fun u e H1 s1 du ge => ?_⟩
        refine ⟨_, rfl, _, rfl, _, rfl, _, _, rfl, rfl, ⟨by decide, by decide⟩, _, rfl, fun v2 d2 H2 s2 dv2 gd2 => ?_⟩
        refine ⟨le_line (by simp), fun p hp => ?_⟩
        have s3 : Same H2 (upd H2 p (.tup [.str "swap", .int (c : Int), u, v2])) := same_new hp
        exact kk p (.swap c e d2) _ (((s0.trans s1).trans s2).trans s3) (.swap upd_same ((du.to (Tups.of_same s2)).to (Tups.of_same s3)) (dv2.to (Tups.of_same s3))) ⟨h13, ge, gd2⟩
      · refine ⟨_, rfl, _, rfl, _, rfl, _, _, rfl, rfl, ⟨by decide, by decide⟩, _, rfl, fun v2 d2 H2 s2 dv2 gd2 => ?_⟩
        refine ⟨le_line (by simp), fun p hp => ?_⟩
        have s3 : Same H2 (upd H2 p (.tup [.str "swap", .int (c : Int), v, v2])) := same_new hp
        exact kk p (.swap c _ d2) _ ((s0.trans s2).trans s3) (.swap upd_same ((dv.to (Tups.of_same s2)).to (Tups.of_same s3)) (dv2.to (Tups.of_same s3))) ⟨h13, gv, gd2⟩
    refine ⟨_, rfl, rfl, _, rfl, ?_⟩
    refine ite2 (fun h3 => ?_) (fun h3 => ?_)
    · -- decide
      obtain ⟨j2, e2, hj2⟩ := mod_nat (n := k) (m := 2) (by decide)
      obtain ⟨x, hx, gx⟩ : ∃ x : Str, ([.str "done", .str "failed"] : List V)[j2]? = some (.str x) ∧ PyData.strOk x = true := by
        match j2, hj2 with
        | 0, _ => exact ⟨_, rfl, by decide +kernel⟩
        | 1, _ => exact ⟨_, rfl, by decide +kernel⟩
        | m + 2, h => omega
      refine ⟨_, rfl, le_line (by simp), fun q hq => ?_⟩
      have s1 : Same H0 (upd H0 q (.lst [.str "done", .str "failed"])) := same_new hq
      refine ⟨_, rfl, _, _, rfl, rfl, (by show (0 : Int) < 2; decide), q, _, _, .str x, rfl, rfl, SqL.of upd_same, (by rw [show k % 2 = (j2 : Int) from e2]; exact atI_nat hx), le_line (by simp), fun p hp => ?_⟩
      have s2 : Same (upd H0 q (.lst [.str "done", .str "failed"])) (upd (upd H0 q (.lst [.str "done", .str "failed"])) p (.tup [.str "decide", .int (c : Int), .str x])) := same_new hp
      exact kk p (.decide c x) _ ((s0.trans s1).trans s2) (.dec upd_same) ⟨h13, gx⟩
    refine ⟨_, rfl, rfl, _, rfl, ?_⟩
    refine ite2 (fun h4 => ?_) (fun h4 => ?_)
    · -- read
      refine ⟨_, rfl, le_line (by simp), fun p hp => ?_⟩
      exact kk p (.read c) _ (s0.trans (same_new hp)) (.read upd_same) h13
    refine ⟨_, rfl, _, _, rfl, rfl, _, rfl, ?_⟩
    refine ite2 (fun h5 => ?_) (fun h5 => ?_)
    · -- flush
      have em : (if (c : Int) > 3 then (c : Int) else 3) = ((max 3 c : Nat) : Int) := by split <;> omega
      refine ⟨_, rfl, _, _, rfl, ?_⟩
      rw [em]
      refine ⟨le_line (by simp), fun p hp => ?_⟩
      exact kk p (.flush (max 3 c)) _ (s0.trans (same_new hp)) (.flush upd_same) ⟨by omega, by omega⟩
    · -- fence
      refine ⟨le_line (by simp), fun p hp => ?_⟩
      exact kk p .fence _ (s0.trans (same_new hp)) (.fence upd_same) trivial
/-! ### same -/
theorem scSame : FnScope ["_law_told", "_law_due_here"] ["_law_told", "_law_due_here"] (defScope sSame) := ⟨rfl, rfl, rfl, by decide +kernel, rfl, by decide +kernel, by decide +kernel⟩
def spSame : Sp := fun vs H Q _ => ∃ (v u : V) (d : PyData), vs = [v, u] ∧ Dt H v d ∧ Dt H u d ∧ Gd d ∧ Q (.bl true) H
def isB : PyData → Bool
  | .bool _ => true
  | _ => false
theorem ty_of {H : Hp} {v : V} {d : PyData} (h : Dt H v d) : ∃ t, TyX K H v t ∧ PySem.W.kitOne K t (.type "bool") = some (isB d) := by
  cases h with
  | non => exact ⟨_, .base .non, kit_ty (show kitB "NoneType" "bool" = some false by decide +kernel)⟩
  | bl b => exact ⟨_, .base (.bl b), kit_ty (show kitB "bool" "bool" = some true by decide +kernel)⟩
  | int i => exact ⟨_, .base (.int i), kit_ty (show kitB "int" "bool" = some false by decide +kernel)⟩
  | str x => exact ⟨_, .base (.str x), kit_ty (show kitB "str" "bool" = some false by decide +kernel)⟩
  | tup h _ => exact ⟨_, .base (.tup h), kit_ty (show kitB "tuple" "bool" = some false by decide +kernel)⟩
theorem ok_same (T : Txt w K mg) : FnOk P w K mg base CX0 1 T.same.f T.same.fd ["_law_told", "_law_due_here"] spSame := by
  refine T.same.F.ok scSame (fun vs H Q E h => ?_) (fun cdv A outer s H vs Q E hr h => ?_)
  · obtain ⟨v, u, d, rfl, _⟩ := h
    rfl
  · obtain ⟨v, u, d, rfl, dv, du, gd, kk⟩ := h
    refine ⟨_, pss_one (ps_ret (pe_and (pe_cmpR op_eq (pe_callB call_isi (by rfl) T.bIsinstance boot_isi (pa_cons (pv 0) (pa_cons (pe_bltn (v := .ty "bool") (by rfl) T.bBool boot_bool' rfl) pa_nil)))
        (pe_callB call_isi (by rfl) T.bIsinstance boot_isi (pa_cons (pv 1) (pa_cons (pe_bltn (v := .ty "bool") (by rfl) T.bBool boot_bool' rfl) pa_nil))) (nomark _))
      (pe_one (pe_cmpR (op_eqD hr.units) (pv 0) (pv 1) (nomark _))))), ?_⟩
    obtain ⟨t1, ty1, k1⟩ := ty_of (K := K) dv
    obtain ⟨t2, ty2, k2⟩ := ty_of (K := K) du
    refine ⟨_, rfl, _, _, _, _, isB d, rfl, .ty "bool", ty1, k1, _, rfl, _, _, _, _, isB d, rfl, .ty "bool", ty2, k2, rfl, true, (by rw [decide_eq_true rfl]), iteT ?_⟩
    refine ⟨_, rfl, _, rfl, d, d, dv.dp, du.dp, gd.shaped, gd.shaped, ?_⟩
    rw [eqv_self gd]
    exact kk
/-! ### looks -/
theorem scLooks : FnScope ["_law_memory", "_law_w", "_law_cell"] ["_law_memory", "_law_w"] (defScope sLooks) := ⟨rfl, rfl, rfl, by decide +kernel, rfl, by decide +kernel, by decide +kernel⟩
def spLooks (CM CL : Addr) : Sp := fun vs H Q _ => ∃ (m : MA) (a : LA) (s : MS) (n : Nat), vs = [.ref m.p, .ref a.w] ∧ MemAt CM CL H m s n ∧ LawAt H a s n ∧ WF s 1000 ∧ ∀ H', Same H H' → Q (.bl true) H'
theorem getD_mem0 {ds : List PyData} (h : ds ≠ []) : ds.getD 0 .none ∈ ds := getD_mem (List.length_pos_iff.mpr h)
theorem ok_looks (T : Txt w K mg) : FnOk P w K mg base CX0 6 T.looks.f T.looks.fd ["_law_memory", "_law_w"] (spLooks T.CM T.CL) := by
  have GS : FnOk P w K mg base CX0 1 T.same.f T.same.fd ["_law_told", "_law_due_here"] _ := ok_same T
  have GP : FnOk P w K mg base CX0 3 T.peek.f T.peek.fd ["self", "cell"] _ := ok_peek T
  have GT : FnOk P w K mg base CX0 5 T.trail.f T.trail.fd ["self", "cell"] _ := ok_trail T
  have GL : FnOk P w K mg base CX0 5 T.lasting.f T.lasting.fd ["self", "cell"] _ := ok_lasting T
  refine T.looks.F.ok scLooks (fun vs H Q E h => ?_) (fun cdv A outer s H vs Q E hr h => ?_)
  · obtain ⟨m, a, s, n, rfl, _⟩ := h
    rfl
  · obtain ⟨m, a, st, n, rfl, M, L, W, kk⟩ := h
    have hu := hu_of hr
    refine ⟨_, pss_cons (ps_for PassesOwn.never rfl (pi_range1 rfl T.bRange (pa_cons pe_int pa_nil)) (pg_name (i := 2) scLooks.nd rfl (Or.inl rfl))
        (pss_cons (ps_if (pt_not (pt_val (pe_call GS (hr.mono (by decide)) rfl T.same.g T.same.F.kp T.same.b .nil pass0 (pa_cons (pe_meth (pv 0) T.clM T.peek.m GP (hr.mono (by decide)) T.peek.b .nil pass0 (pa_cons (pv 2) pa_nil))
            (pa_cons (pe_ix ix_list (pe_ix ix_list (pe_dget hu (pv 1) pe_str (fun _ _ => rfl)) (pv 2) (fun _ _ => rfl)) (pe_un un_neg pe_int) (fun _ _ => rfl)) pa_nil))))) (pss_one (ps_ret pe_bl)) pss_nil)
        (pss_one (ps_if (PW.pt (pw_and (pt_cmpR op_ge (pv 2) pe_int (nomark _)) (pw_and1 (PW.pt (pw_or
            (pt_cmpR (op_neD hr.units) (pe_meth (pv 0) T.clM T.trail.m GT hr T.trail.b .nil pass0 (pa_cons (pv 2) pa_nil)) (pe_ix ix_list (pe_dget hu (pv 1) pe_str (fun _ _ => rfl)) (pv 2) (fun _ _ => rfl)) (nomark _))
            (pw_or1 (pt_cmpR (op_neD hr.units) (pe_meth (pv 0) T.clM T.lasting.m GL hr T.lasting.b .nil pass0 (pa_cons (pv 2) pa_nil))
              (pe_ix ix_list (pe_ix ix_list (pe_dget hu (pv 1) pe_str (fun _ _ => rfl)) (pv 2) (fun _ _ => rfl)) pe_int (fun _ _ => rfl)) (nomark _))))))))
          (pss_one (ps_ret pe_bl)) pss_nil))))
      (pss_one (ps_ret (pe_cmpR op_eq (pe_fld (pv 0) rfl) (pe_dget hu (pv 1) pe_str (fun _ _ => rfl)) (nomark _)))), ?_⟩
    refine ⟨13, rfl, by decide, by decide, ?_⟩
    refine for_range (lo := 0) (n := (13 : Int).toNat) (fun i σ H' => ∃ v : Option V, σ = [some (.ref m.p), some (.ref a.w), v] ∧ Same H H') ⟨none, rfl, Same.refl H⟩ ?_ ?_
    · rintro c σ H' hc ⟨v, rfl, sm⟩
      have hc13 : c < 13 := hc
      have hi : c < st.tr.length := by rw [W.tl]; exact hc13
      have M' := M.same sm
      have L' := L.same sm
      have hmem := W.at_mem hc13
      have hne := W.ne _ hmem
      have e0 : (0 : Int) + (c : Int) = (c : Int) := by omega
      obtain ⟨b, hb, _, xs, hx2, dx⟩ := L'.co.ms_at hi
      obtain ⟨u, hu2, du⟩ := dx.last hne
      refine ⟨_, rfl, m.p, m.dx, _, rfl, M'.hp, mf_no (by decide +kernel), _, rfl, m, st, n, c, by rw [e0]; rfl, M', W, Nat.zero_le _, hc13, fun v1 dv1 => ?_⟩
      refine ⟨_, rfl, a.w, _, rfl, L'.gt, _, rfl, a.co.tr, _, _, .ref b, rfl, rfl, SqL.of L'.co.htr, (by rw [e0]; exact atI_nat (ref_at hb)), _, rfl, b, _, _, u, rfl, rfl, SqL.of hx2, atI_m1 hu2, ?_⟩
      refine ⟨v1, u, lastD (st.tr.getD c []), rfl, dv1, du, W.last hc13, true, rfl, ?_⟩
      refine iteF ?_
      refine ⟨_, rfl, _, _, rfl, rfl, _, rfl, ?_⟩
      refine ite2 (fun h3 => ?_) (fun h3 => ?_)
      · have h3' : (3 : Int) ≤ 0 + (c : Int) := of_decide_eq_true h3
        have hc3 : 3 ≤ c := by omega
        refine ⟨_, rfl, m.p, m.dx, _, rfl, M'.hp, mf_no (by decide +kernel), _, rfl, m, st, n, c, by rw [e0]; rfl, M', W, hc3, hc13, fun ys p dys hp => ?_⟩
        have s1 : Same H' (upd H' p (.lst ys)) := same_new hp
        have L1 := L'.same s1
        have M1 := M'.same s1
        have hg := W.gd _ hmem
        refine ⟨_, rfl, a.w, _, rfl, L1.gt, _, rfl, a.co.tr, _, _, .ref b, rfl, rfl, SqL.of L1.co.htr, (by rw [e0]; exact atI_nat (ref_at hb)), .list (st.tr.getD c []), .list (st.tr.getD c []),
          .lst (SqL.of upd_same) (DtAll.dp _ _ (dys.to (Tups.of_same s1))), .lst (SqL.of (s1 _ _ hx2)) (DtAll.dp _ _ (dx.to (Tups.of_same s1))), shaped_list hg, shaped_list hg, _, rfl, ?_⟩
        rw [eqv_list hg]
        refine iteF ?_
        obtain ⟨u0, hu0, du0⟩ := (dx.to (Tups.of_same s1)).first hne
        refine ⟨_, rfl, m.p, m.dx, _, rfl, M1.hp, mf_no (by decide +kernel), _, rfl, m, st, n, c, by rw [e0]; rfl, M1, W, hc3, hc13, fun v2 dv2 => ?_⟩
        have g0 := hg _ (getD_mem0 hne)
        refine ⟨_, rfl, a.w, _, rfl, L1.gt, _, rfl, a.co.tr, _, _, .ref b, rfl, rfl, SqL.of L1.co.htr, (by rw [e0]; exact atI_nat (ref_at hb)), b, _, _, u0, rfl, rfl, SqL.of (s1 _ _ hx2), atI_nat (j := 0) hu0, _, _, dv2.dp, du0.dp, g0.shaped, g0.shaped, _, rfl, ?_⟩
        rw [eqv_self g0]
        refine iteF ?_
        exact ⟨_, rfl, sm.trans s1⟩
      · refine iteF ?_
        exact ⟨_, rfl, sm⟩
    · rintro σ H' ⟨v, rfl, sm⟩
      have M' := M.same sm
      have L' := L.same sm
      refine ⟨_, rfl, m.p, _, m.dx, _, _, rfl, M'.hp, T.clM, T.nCount, mf_count, _, rfl, a.w, _, rfl, L'.gc, rfl, ?_⟩
      rw [decide_eq_true rfl]
      exact kk H' sm
end
end DK

/-! What the law does to a memory, rightly and wrongly. -/
namespace L2
open PySem PySem.Spec PyProof.Rows
/-- isinstance(e, c) in the suite, its class told by the reading -/
theorem call_isE' {X : Cx} {a D : Addr} {oe : Obj} {cls : Value} {d : Option Addr} {pn : List (Addr × Obj)} (C : ExcC X.K D) (hz : Zc cls d oe) (hf : ∃ vs, oe.data = .fields vs) :
    CallR (X.suite a ((a, oe) :: pn)) (.builtin "isinstance") (fun xs H Q => cls = .ref D ∧ d = none ∧ rIsE X.K D a xs H Q) := by
  intro pins s σ H xs us Q I r h
  obtain ⟨rfl, rfl, h⟩ := h
  exact call_isE C hz hf pins s σ H xs us Q I r h
/-- what a call in a try's body may let out, whatever the slots -/
theorem passW {X : Cx} {W : WX} {k : Nat} (tk : Takes X W) (hN : X.N.length = k) : Passes (L2.CX X.prog X.w) X (fun cls d H => ∀ σ : St, σ.length = k → W cls d σ H) :=
  fun _ σ _ _ e s' I c => tk e s' (XE.of_call I (fun _ _ _ h => h σ (I.len.trans hN)) c)
end L2
namespace DK
open PySem L2
section
variable {P : Program} {w : World} {K : PySem.W.Frag} {mg : Str → Option Value} {base : Heap}
theorem spAccess.imp {CM CL NV : Addr} {vs : List V} {H : Hp} {Q : VK} {E E' : XK} (h : spAccess CM CL NV vs H Q E) (f : ∀ H', E (.ref NV) none H' → E' (.ref NV) none H') : spAccess CM CL NV vs H Q E' := by
  obtain ⟨m, s, n, t, r, e, M, W, hn, hk⟩ := h
  exact ⟨m, s, n, t, r, e, M, W, hn, hk.imp (fun ⟨xs, a, b, c⟩ => ⟨xs, a, b, f _ c⟩) id⟩
theorem spDrift.imp {CM CL NV : Addr} {vs : List V} {H : Hp} {Q : VK} {E E' : XK} (h : spDrift CM CL NV vs H Q E) (f : ∀ H', E (.ref NV) none H' → E' (.ref NV) none H') : spDrift CM CL NV vs H Q E' := by
  obtain ⟨m, s, n, c, x, e, M, W, hk⟩ := h
  exact ⟨m, s, n, c, x, e, M, W, hk.imp (fun ⟨a, b⟩ => ⟨a, f _ b⟩) fun z => z.imp (fun ⟨a, b, c, d⟩ => ⟨a, b, c, f _ d⟩) id⟩
theorem spCut.imp {CM CL NV : Addr} {vs : List V} {H : Hp} {Q : VK} {E E' : XK} (h : spCut CM CL NV vs H Q E) (f : ∀ H', E (.ref NV) none H' → E' (.ref NV) none H') : spCut CM CL NV vs H Q E' := by
  obtain ⟨m, s, n, x, o, e, M, C, W, h1, h2⟩ := h
  exact ⟨m, s, n, x, o, e, M, C, W, fun z => f _ (h1 z), h2⟩
/-! ### do -/
theorem scDo : FnScope ["_law_memory", "_law_act", "_law_first", "_law_second", "e"] ["_law_memory", "_law_act", "_law_first", "_law_second"] (defScope sDo) := ⟨rfl, rfl, rfl, by decide +kernel, rfl, by decide +kernel, by decide +kernel⟩
/-- what is wanted of a refusal -/
def EW (NV : Addr) (Q : VK) : XK := fun cls d H => cls = .ref NV ∧ d = none ∧ ∀ l, H l = none → Q (.ref l) (upd H l (.lst [.str "refused", .bl true]))
def spDo (CM CL NV : Addr) : Sp := fun vs H Q _ => ∃ (m : MA) (s : MS) (n : Nat) (act : Str) (x y : V), vs = [.ref m.p, .str act, x, y] ∧ MemAt CM CL H m s n ∧
  ((act = "access" ∧ spAccess CM CL NV [.ref m.p, x, y] H Q (EW NV Q)) ∨ (act = "drift" ∧ spDrift CM CL NV [.ref m.p, x, y] H Q (EW NV Q)) ∨ (act = "cut" ∧ spCut CM CL NV [.ref m.p, x] H Q (EW NV Q)))
theorem ok_do (T : Txt w K mg) : FnOk P w K mg base CX0 7 T.do_.f T.do_.fd ["_law_memory", "_law_act", "_law_first", "_law_second"] (spDo T.CM T.CL T.NV) := by
  have GA : FnOk P w K mg base (L2.CX P w) 6 T.access.f T.access.fd ["self", "thread", "request"] _ := ok_access T
  have GD : FnOk P w K mg base (L2.CX P w) 5 T.drift.f T.drift.fd ["self", "cell", "steps"] _ := ok_drift T
  have GC : FnOk P w K mg base (L2.CX P w) 4 T.cut.f T.cut.fd ["self", "choices"] _ := ok_cut T
  refine T.do_.F.ok scDo (fun vs H Q E h => ?_) (fun cdv A outer s H vs Q E hr h => ?_)
  · obtain ⟨m, s, n, act, x, y, rfl, _⟩ := h
    rfl
  · obtain ⟨m, st, n, act, x, y, rfl, M, hk⟩ := h
    refine ⟨_, pss_one (ps_try_as (i := 4) rfl rfl scDo.nd rfl rfl ⟨rfl, by decide, .inl T.gLE⟩ takes0
      (fun W pn xe tk po => pss_cons (ps_if (pt_cmpR op_eq (pv 1) pe_str (nomark _)) (pss_one (ps_ret (pe_meth (pv 0) T.clM T.access.m GA hr T.access.b .nil (passW (k := 5) tk rfl) (pa_cons (pv 2) (pa_cons (pv 3) pa_nil))))) pss_nil)
        (pss_cons (ps_if (pt_cmpR op_eq (pv 1) pe_str (nomark _)) (pss_one (ps_ret (pe_meth (pv 0) T.clM T.drift.m GD (hr.mono (by decide)) T.drift.b .nil (passW (k := 5) tk rfl) (pa_cons (pv 2) (pa_cons (pv 3) pa_nil))))) pss_nil)
        (pss_one (ps_ret (pe_meth (pv 0) T.clM T.cut.m GC (hr.mono (by decide)) T.cut.b .nil (passW (k := 5) tk rfl) (pa_cons (pv 2) pa_nil))))))
      (fun a oe cls d pn hz hf => pss_one (ps_ret (pe_lst (pa_cons pe_str (pa_cons (pe_callB (call_isE' T.exC hz hf) (by rfl) T.bIsinstance boot_isi (pa_cons (pv 4) (pa_cons (pe_glob (v := .ref T.NV) rfl T.gNV rfl) pa_nil))) pa_nil)))))), ?_⟩
    have noM : ∀ x : Str, noMf x = true → (mf m.ly n m.rows m.co.tr m.co.nt).lookup x = none := fun x h => mf_no h
    rcases hk with ⟨rfl, h⟩ | ⟨rfl, h⟩ | ⟨rfl, h⟩
    · refine ⟨_, rfl, rfl, _, rfl, ?_⟩
      rw [strEq]
      refine iteT ?_
      refine ⟨_, rfl, m.p, m.dx, _, rfl, M.hp, noM _ (by decide +kernel), _, rfl, _, rfl, ?_⟩
      dsimp only [tNil]
      refine h.imp ?_
      rintro H' ⟨_, _, e⟩ σ hσ
      refine ⟨true, T.exm, fun _ a ha => ?_, fun z => Bool.noConfusion z⟩
      exact ⟨.ref a, List.getElem?_set_self (by rw [hσ]; decide), rfl, rfl, _, _, true, rfl, fun u hu => hu, T.kitNV, le_line (by simp), e⟩
    · refine ⟨_, rfl, rfl, _, rfl, ?_⟩
      rw [strNe (by decide +kernel)]
      refine iteF ?_
      refine ⟨_, rfl, rfl, _, rfl, ?_⟩
      rw [strEq]
      refine iteT ?_
      refine ⟨_, rfl, m.p, m.dx, _, rfl, M.hp, noM _ (by decide +kernel), _, rfl, _, rfl, ?_⟩
      dsimp only [tNil]
      refine h.imp ?_
      rintro H' ⟨_, _, e⟩ σ hσ
      refine ⟨true, T.exm, fun _ a ha => ?_, fun z => Bool.noConfusion z⟩
      exact ⟨.ref a, List.getElem?_set_self (by rw [hσ]; decide), rfl, rfl, _, _, true, rfl, fun u hu => hu, T.kitNV, le_line (by simp), e⟩
    · refine ⟨_, rfl, rfl, _, rfl, ?_⟩
      rw [strNe (by decide +kernel)]
      refine iteF ?_
      refine ⟨_, rfl, rfl, _, rfl, ?_⟩
      rw [strNe (by decide +kernel)]
      refine iteF ?_
      refine ⟨_, rfl, m.p, m.dx, _, rfl, M.hp, noM _ (by decide +kernel), _, rfl, ?_⟩
      dsimp only [tNil]
      refine h.imp ?_
      rintro H' ⟨_, _, e⟩ σ hσ
      refine ⟨true, T.exm, fun _ a ha => ?_, fun z => Bool.noConfusion z⟩
      exact ⟨.ref a, List.getElem?_set_self (by rw [hσ]; decide), rfl, rfl, _, _, true, rfl, fun u hu => hu, T.kitNV, le_line (by simp), e⟩
end
end DK

/-! What is not valid. -/
namespace DK
open PySem L2
/-- a row of the menu: a thread and a request -/
def MI (H : Hp) (v : V) (p : Int × List V) : Prop := ∃ a r, v = .ref a ∧ H a = some (.tup [.int p.1, .ref r]) ∧ H r = some (.tup p.2)
theorem MI.to {H H' : Hp} {v : V} {p : Int × List V} (h : MI H v p) (s : Same H H') : MI H' v p := by
  obtain ⟨a, r, e, h1, h2⟩ := h
  exact ⟨a, r, e, s _ _ h1, s _ _ h2⟩
/-- the rows so far -/
def Menu (H : Hp) (vs : List V) (ws : List (Int × List V)) : Prop := vs.length = ws.length ∧ ∀ (i : Nat) (v : V), vs[i]? = some v → ∃ p, ws[i]? = some p ∧ MI H v p
theorem Menu.nil {H : Hp} : Menu H [] [] := ⟨rfl, fun i v h => by simp at h⟩
theorem Menu.to {H H' : Hp} {vs : List V} {ws : List (Int × List V)} (h : Menu H vs ws) (s : Same H H') : Menu H' vs ws :=
  ⟨h.1, fun i v e => let ⟨p, e1, m⟩ := h.2 i v e; ⟨p, e1, m.to s⟩⟩
theorem Menu.add {H : Hp} {vs : List V} {ws : List (Int × List V)} {r a : Addr} {t : Int} {xs : List V} (h : Menu H vs ws) (hr : H r = none) (ha : upd H r (.tup xs) a = none) :
    Menu (upd (upd H r (.tup xs)) a (.tup [.int t, .ref r])) (vs ++ [.ref a]) (ws ++ [(t, xs)]) ∧ Same H (upd (upd H r (.tup xs)) a (.tup [.int t, .ref r])) := by
  have s1 : Same H (upd H r (.tup xs)) := same_new hr
  have s2 : Same (upd H r (.tup xs)) (upd (upd H r (.tup xs)) a (.tup [.int t, .ref r])) := same_new ha
  have s := s1.trans s2
  refine ⟨⟨by rw [List.length_append, List.length_append, h.1]; rfl, fun i v e => ?_⟩, s⟩
  by_cases hi : i < vs.length
  · rw [List.getElem?_append_left hi] at e
    obtain ⟨p, e1, m⟩ := h.2 i v e
    exact ⟨p, by rw [List.getElem?_append_left (by rw [← h.1]; exact hi)]; exact e1, m.to s⟩
  · have hlen : i < (vs ++ [V.ref a]).length := (List.getElem?_eq_some_iff.mp e).1
    rw [List.length_append, List.length_singleton] at hlen
    have hi' : i = vs.length := by omega
    subst hi'
    rw [List.getElem?_append_right (Nat.le_refl _), Nat.sub_self] at e
    have ev : v = .ref a := (Option.some.inj e).symm
    refine ⟨(t, xs), ?_, a, r, ev, upd_same, s2 _ _ upd_same⟩
    rw [h.1, List.getElem?_append_right (Nat.le_refl _), Nat.sub_self]; rfl
/-- the law's menu -/
def menuW : List (Int × List V) := [(0, [.str "flush", .int 0]), (1, [.str "flush", .int 2]), (2, [.str "read", .int 5]), (-1, [.str "fence"]), (0, [.str "read", .int 13]), (0, [.str "fence", .int 1]),
  (0, [.str "end", .int 1]), (0, [.str "write", .int 5]), (0, [.str "swap", .int (-1), .int 0, .int 0]), (0, []), (0, [.str "flush", .int 13])]
theorem menu_bad {j : Nat} (h : j < 11) : ∃ p, menuW[j]? = some p ∧ Chk p.1 p.2 false := by
  have z : (0 : Int) ≤ 0 ∧ (0 : Int) ≤ 1 := ⟨by decide, by decide⟩
  have o : (0 : Int) ≤ 1 ∧ (1 : Int) ≤ 1 := ⟨by decide, by decide⟩
  match j, h with
  | 0, _ => exact ⟨_, rfl, by have := Chk.flush (c := 0) z; rwa [show decide ((3 : Int) ≤ 0 ∧ (0 : Int) < 13) = false by decide] at this⟩
  | 1, _ => exact ⟨_, rfl, by have := Chk.flush (c := 2) o; rwa [show decide ((3 : Int) ≤ 2 ∧ (2 : Int) < 13) = false by decide] at this⟩
  | 2, _ => exact ⟨_, rfl, Chk.thread (by decide)⟩
  | 3, _ => exact ⟨_, rfl, Chk.thread (by decide)⟩
  | 4, _ => exact ⟨_, rfl, by have := Chk.cell (c := 13) (rest := []) z LTab.read (by decide +kernel) (by decide +kernel); rwa [show decide ((0 : Int) ≤ 13 ∧ (13 : Int) < 13) = false by decide] at this⟩
  | 5, _ => exact ⟨_, rfl, Chk.len z LTab.fence (fun q => by have := V.int.inj q; simp at this)⟩
  | 6, _ => exact ⟨_, rfl, Chk.len z LTab.end_ (fun q => by cases q)⟩
  | 7, _ => exact ⟨_, rfl, Chk.len z LTab.write (fun q => by have := V.int.inj q; simp at this)⟩
  | 8, _ => exact ⟨_, rfl, by have := Chk.cell (c := -1) (rest := [.int 0, .int 0]) z LTab.swap (by decide +kernel) (by decide +kernel); rwa [show decide ((0 : Int) ≤ -1 ∧ (-1 : Int) < 13) = false by decide] at this⟩
  | 9, _ => exact ⟨_, rfl, Chk.empty z⟩
  | 10, _ => exact ⟨_, rfl, by have := Chk.flush (c := 13) z; rwa [show decide ((3 : Int) ≤ 13 ∧ (13 : Int) < 13) = false by decide] at this⟩
  | j + 11, h => omega
section
variable {P : Program} {w : World} {K : PySem.W.Frag} {mg : Str → Option Value} {base : Heap}
theorem scWrong : FnScope ["_law_memory", "_law_number", "_law_menu"] ["_law_memory", "_law_number"] (defScope sWrong) := ⟨rfl, rfl, rfl, by decide +kernel, rfl, by decide +kernel, by decide +kernel⟩
def spWrong (CM CL : Addr) : Sp := fun vs H Q _ => ∃ (m : MA) (s : MS) (n : Nat) (k : Int), vs = [.ref m.p, .int k] ∧ MemAt CM CL H m s n ∧ WF s n ∧ n < 999 ∧
  ∀ l H', Same H H' → H' l = some (.lst [.str "refused", .bl true]) → Q (.ref l) H'
theorem ok_wrong (T : Txt w K mg) : FnOk P w K mg base CX0 8 T.wrong.f T.wrong.fd ["_law_memory", "_law_number"] (spWrong T.CM T.CL) := by
  have GD : FnOk P w K mg base CX0 7 T.do_.f T.do_.fd ["_law_memory", "_law_act", "_law_first", "_law_second"] _ := ok_do T
  refine T.wrong.F.ok scWrong (fun vs H Q E h => ?_) (fun cdv A outer s H vs Q E hr h => ?_)
  · obtain ⟨m, s, n, k, rfl, _⟩ := h
    rfl
  · obtain ⟨m, st, n, k, rfl, M, W, hn, kk⟩ := h
    refine ⟨_, pss_cons (ps_set (i := 2) scWrong.nd rfl (Or.inl rfl) (pe_lst
        (pa_cons (pe_tup (pa_cons pe_int (pa_cons (pe_tup (pa_cons pe_str (pa_cons pe_int pa_nil))) pa_nil)))
        (pa_cons (pe_tup (pa_cons pe_int (pa_cons (pe_tup (pa_cons pe_str (pa_cons pe_int pa_nil))) pa_nil)))
        (pa_cons (pe_tup (pa_cons pe_int (pa_cons (pe_tup (pa_cons pe_str (pa_cons pe_int pa_nil))) pa_nil)))
        (pa_cons (pe_tup (pa_cons (pe_un un_neg pe_int) (pa_cons (pe_tup (pa_cons pe_str pa_nil)) pa_nil)))
        (pa_cons (pe_tup (pa_cons pe_int (pa_cons (pe_tup (pa_cons pe_str (pa_cons pe_int pa_nil))) pa_nil)))
        (pa_cons (pe_tup (pa_cons pe_int (pa_cons (pe_tup (pa_cons pe_str (pa_cons pe_int pa_nil))) pa_nil))) pa_nil))))))))
      (pss_cons (ps_set (i := 2) scWrong.nd rfl (Or.inl rfl) (pe_op op_cat (pv 2) (pe_lst
        (pa_cons (pe_tup (pa_cons pe_int (pa_cons (pe_tup (pa_cons pe_str (pa_cons pe_int pa_nil))) pa_nil)))
        (pa_cons (pe_tup (pa_cons pe_int (pa_cons (pe_tup (pa_cons pe_str (pa_cons pe_int pa_nil))) pa_nil)))
        (pa_cons (pe_tup (pa_cons pe_int (pa_cons (pe_tup (pa_cons pe_str (pa_cons (pe_un un_neg pe_int) (pa_cons pe_int (pa_cons pe_int pa_nil))))) pa_nil)))
        (pa_cons (pe_tup (pa_cons pe_int (pa_cons (pe_tup pa_nil) pa_nil)))
        (pa_cons (pe_tup (pa_cons pe_int (pa_cons (pe_tup (pa_cons pe_str (pa_cons pe_int pa_nil))) pa_nil))) pa_nil))))))))
      (pss_cons (ps_if (pt_cmpR op_eq (pe_op op_mod (pv 1) pe_int) pe_int (nomark _))
        (pss_one (ps_ret (pe_call GD hr rfl T.do_.g T.do_.F.kp T.do_.b .nil pass0 (pa_cons (pv 0) (pa_cons pe_str (pa_cons (pe_ix ix_list (pe_lst (pa_cons pe_int (pa_cons pe_int (pa_cons pe_int (pa_cons (pe_un un_neg pe_int) pa_nil)))))
          (pe_op op_mod (pe_op op_fdiv (pv 1) pe_int) pe_int) (fun _ _ => rfl)) (pa_cons pe_int pa_nil))))))) pss_nil)
      (pss_cons (ps_if (pt_cmpR op_eq (pe_op op_mod (pv 1) pe_int) pe_int (nomark _))
        (pss_one (ps_ret (pe_call GD hr rfl T.do_.g T.do_.F.kp T.do_.b .nil pass0 (pa_cons (pv 0) (pa_cons pe_str (pa_cons pe_int (pa_cons (pe_ix ix_list (pe_lst (pa_cons (pe_un un_neg pe_int) (pa_cons pe_non (pa_cons pe_bl pa_nil))))
          (pe_op op_mod (pe_op op_fdiv (pv 1) pe_int) pe_int) (fun _ _ => rfl)) pa_nil))))))) pss_nil)
      (pss_cons (ps_if (pt_cmpR op_eq (pe_op op_mod (pv 1) pe_int) pe_int (nomark _))
        (pss_one (ps_ret (pe_call GD hr rfl T.do_.g T.do_.F.kp T.do_.b .nil pass0 (pa_cons (pv 0) (pa_cons pe_str (pa_cons (pe_ix ix_list (pe_lst (pa_cons (pe_lst (pa_cons pe_int (pa_cons (pe_un un_neg pe_int) pa_nil)))
            (pa_cons (pe_tup (pa_cons pe_int (pa_cons pe_int pa_nil))) (pa_cons pe_non (pa_cons (pe_lst (pa_cons pe_bl pa_nil)) pa_nil)))))
          (pe_op op_mod (pe_op op_fdiv (pv 1) pe_int) pe_int) (fun _ _ => rfl)) (pa_cons pe_non pa_nil))))))) pss_nil)
      (pss_one (ps_ret (pe_call GD hr rfl T.do_.g T.do_.F.kp T.do_.b .nil pass0 (pa_cons (pv 0) (pa_cons pe_str
        (pa_cons (pe_ix ix_tup (pe_ix ix_list (pv 2) (pe_op op_mod (pe_op op_fdiv (pv 1) pe_int) pe_int) (fun _ _ => rfl)) pe_int (fun _ _ => rfl))
        (pa_cons (pe_ix ix_tup (pe_ix ix_list (pv 2) (pe_op op_mod (pe_op op_fdiv (pv 1) pe_int) pe_int) (fun _ _ => rfl)) pe_int (fun _ _ => rfl)) pa_nil))))))))))), ?_⟩
    -- the menu
    refine ⟨le_line (by simp), fun r1 hr1 => ⟨le_line (by simp), fun a1 ha1 => ?_⟩⟩
    obtain ⟨m1, s1⟩ := (Menu.nil (H := H)).add (t := 0) hr1 ha1
    generalize hG1 : upd (upd H r1 (.tup [.str "flush", .int 0])) a1 (.tup [.int 0, .ref r1]) = H1 at m1 s1 ⊢
    refine ⟨le_line (by simp), fun r2 hr2 => ⟨le_line (by simp), fun a2 ha2 => ?_⟩⟩
    obtain ⟨m2, s2⟩ := m1.add (t := 1) hr2 ha2
    generalize hG2 : upd (upd H1 r2 (.tup [.str "flush", .int 2])) a2 (.tup [.int 1, .ref r2]) = H2 at m2 s2 ⊢
    refine ⟨le_line (by simp), fun r3 hr3 => ⟨le_line (by simp), fun a3 ha3 => ?_⟩⟩
    obtain ⟨m3, s3⟩ := m2.add (t := 2) hr3 ha3
    generalize hG3 : upd (upd H2 r3 (.tup [.str "read", .int 5])) a3 (.tup [.int 2, .ref r3]) = H3 at m3 s3 ⊢
    refine ⟨_, rfl, le_line (by simp), fun r4 hr4 => ⟨le_line (by simp), fun a4 ha4 => ?_⟩⟩
    obtain ⟨m4, s4⟩ := m3.add (t := -1) hr4 ha4
    generalize hG4 : upd (upd H3 r4 (.tup [.str "fence"])) a4 (.tup [.int (-1), .ref r4]) = H4 at m4 s4 ⊢
    refine ⟨le_line (by simp), fun r5 hr5 => ⟨le_line (by simp), fun a5 ha5 => ?_⟩⟩
    obtain ⟨m5, s5⟩ := m4.add (t := 0) hr5 ha5
    generalize hG5 : upd (upd H4 r5 (.tup [.str "read", .int 13])) a5 (.tup [.int 0, .ref r5]) = H5 at m5 s5 ⊢
    refine ⟨le_line (by simp), fun r6 hr6 => ⟨le_line (by simp), fun a6 ha6 => ?_⟩⟩
    obtain ⟨m6, s6⟩ := m5.add (t := 0) hr6 ha6
    generalize hG6 : upd (upd H5 r6 (.tup [.str "fence", .int 1])) a6 (.tup [.int 0, .ref r6]) = H6 at m6 s6 ⊢
    refine ⟨le_line (by simp), fun l1 hl1 => ?_⟩
    have s7 : Same H6 (upd H6 l1 (.lst [.ref a1, .ref a2, .ref a3, .ref a4, .ref a5, .ref a6])) := same_new hl1
    have hL1 : (upd H6 l1 (.lst [.ref a1, .ref a2, .ref a3, .ref a4, .ref a5, .ref a6])) l1 = some (.lst [.ref a1, .ref a2, .ref a3, .ref a4, .ref a5, .ref a6]) := upd_same
    have m7 := m6.to s7
    generalize hG7 : upd H6 l1 (.lst [.ref a1, .ref a2, .ref a3, .ref a4, .ref a5, .ref a6]) = H7 at m7 s7 hL1 ⊢
    have s17 : Same H H7 := s1.trans (s2.trans (s3.trans (s4.trans (s5.trans (s6.trans s7)))))
    clear m1 m2 m3 m4 m5 m6 hG1 hG2 hG3 hG4 hG5 hG6 hG7
    refine ⟨_, rfl, ?_⟩
    refine ⟨le_line (by simp), fun r8 hr8 => ⟨le_line (by simp), fun a8 ha8 => ?_⟩⟩
    obtain ⟨m8, s8⟩ := m7.add (t := 0) hr8 ha8
    generalize hG8 : upd (upd H7 r8 (.tup [.str "end", .int 1])) a8 (.tup [.int 0, .ref r8]) = H8 at m8 s8 ⊢
    refine ⟨le_line (by simp), fun r9 hr9 => ⟨le_line (by simp), fun a9 ha9 => ?_⟩⟩
    obtain ⟨m9, s9⟩ := m8.add (t := 0) hr9 ha9
    generalize hG9 : upd (upd H8 r9 (.tup [.str "write", .int 5])) a9 (.tup [.int 0, .ref r9]) = H9 at m9 s9 ⊢
    refine ⟨_, rfl, le_line (by simp), fun r10 hr10 => ⟨le_line (by simp), fun a10 ha10 => ?_⟩⟩
    obtain ⟨m10, s10⟩ := m9.add (t := 0) hr10 ha10
    generalize hG10 : upd (upd H9 r10 (.tup [.str "swap", .int (-1), .int 0, .int 0])) a10 (.tup [.int 0, .ref r10]) = H10 at m10 s10 ⊢
    refine ⟨Nat.zero_le _, fun r11 hr11 => ⟨le_line (by simp), fun a11 ha11 => ?_⟩⟩
    obtain ⟨m11, s11⟩ := m10.add (t := 0) hr11 ha11
    generalize hG11 : upd (upd H10 r11 (.tup [])) a11 (.tup [.int 0, .ref r11]) = H11 at m11 s11 ⊢
    refine ⟨le_line (by simp), fun r12 hr12 => ⟨le_line (by simp), fun a12 ha12 => ?_⟩⟩
    obtain ⟨m12, s12⟩ := m11.add (t := 0) hr12 ha12
    generalize hG12 : upd (upd H11 r12 (.tup [.str "flush", .int 13])) a12 (.tup [.int 0, .ref r12]) = H12 at m12 s12 ⊢
    refine ⟨le_line (by simp), fun l2 hl2 => ?_⟩
    have s13 : Same H12 (upd H12 l2 (.lst [.ref a8, .ref a9, .ref a10, .ref a11, .ref a12])) := same_new hl2
    have hL2 : (upd H12 l2 (.lst [.ref a8, .ref a9, .ref a10, .ref a11, .ref a12])) l2 = some (.lst [.ref a8, .ref a9, .ref a10, .ref a11, .ref a12]) := upd_same
    have m13 := m12.to s13
    generalize hG13 : upd H12 l2 (.lst [.ref a8, .ref a9, .ref a10, .ref a11, .ref a12]) = H13 at m13 s13 hL2 ⊢
    have s713 : Same H7 H13 := s8.trans (s9.trans (s10.trans (s11.trans (s12.trans s13))))
    clear m7 m8 m9 m10 m11 m12 hG8 hG9 hG10 hG11 hG12 hG13
    refine ⟨l1, l2, _, _, rfl, rfl, s713 _ _ hL1, hL2, le_line (by simp), fun mn hmn => ?_⟩
    have s14 : Same H13 (upd H13 mn (.lst ([.ref a1, .ref a2, .ref a3, .ref a4, .ref a5, .ref a6] ++ [.ref a8, .ref a9, .ref a10, .ref a11, .ref a12]))) := same_new hmn
    have hMn : (upd H13 mn (.lst ([.ref a1, .ref a2, .ref a3, .ref a4, .ref a5, .ref a6] ++ [.ref a8, .ref a9, .ref a10, .ref a11, .ref a12]))) mn = some (.lst ([.ref a1, .ref a2, .ref a3, .ref a4, .ref a5, .ref a6] ++ [.ref a8, .ref a9, .ref a10, .ref a11, .ref a12])) := upd_same
    have m14 : Menu _ ([.ref a1, .ref a2, .ref a3, .ref a4, .ref a5, .ref a6] ++ [.ref a8, .ref a9, .ref a10, .ref a11, .ref a12]) menuW := m13.to s14
    generalize hG14 : upd H13 mn (.lst ([.ref a1, .ref a2, .ref a3, .ref a4, .ref a5, .ref a6] ++ [.ref a8, .ref a9, .ref a10, .ref a11, .ref a12])) = H14 at m14 s14 hMn ⊢
    have sH : Same H H14 := s17.trans (s713.trans s14)
    clear m13 hG14
    have M14 := M.same sH
    have e1000 : WF st 1000 := W.mono (by omega)
    -- which of the four
    refine ⟨_, rfl, _, _, rfl, rfl, (by show (0 : Int) < 4; decide), rfl, _, rfl, ?_⟩
    refine ite2 (fun h1 => ?_) (fun h1 => ?_)
    · obtain ⟨j, ej, hj⟩ := mod_nat (n := k / 4) (m := 4) (by decide)
      obtain ⟨c, hc, hb⟩ : ∃ c : Int, ([.int 0, .int 2, .int 13, .int (-1)] : List V)[j]? = some (.int c) ∧ ¬ (3 ≤ c ∧ c < 13) := by
        match j, hj with
        | 0, _ => exact ⟨0, rfl, by decide⟩
        | 1, _ => exact ⟨2, rfl, by decide⟩
        | 2, _ => exact ⟨13, rfl, by decide⟩
        | 3, _ => exact ⟨-1, rfl, by decide⟩
        | j + 4, h => omega
      refine ⟨_, rfl, _, rfl, le_line (by simp), fun l hl => ?_⟩
      have sl : Same H14 (upd H14 l (.lst [.int 0, .int 2, .int 13, .int (-1)])) := same_new hl
      refine ⟨_, rfl, _, _, rfl, rfl, ⟨by decide, by decide⟩, _, _, rfl, rfl, (by show (0 : Int) < 4; decide), l, _, _, .int c, rfl, rfl, SqL.of upd_same, (by rw [show k / 4 % 4 = (j : Int) from ej]; exact atI_nat hc), ?_⟩
      refine ⟨m, st, n, _, _, _, rfl, M14.same sl, .inr (.inl ⟨rfl, m, st, n, c, .int 1, rfl, M14.same sl, e1000, .inl ⟨hb, rfl, rfl, fun l2 hl2 => ?_⟩⟩)⟩
      exact kk l2 _ ((sH.trans sl).trans (same_new hl2)) upd_same
    refine ⟨_, rfl, _, _, rfl, rfl, (by show (0 : Int) < 4; decide), rfl, _, rfl, ?_⟩
    refine ite2 (fun h2 => ?_) (fun h2 => ?_)
    · obtain ⟨j, ej, hj⟩ := mod_nat (n := k / 4) (m := 3) (by decide)
      obtain ⟨x, hx, hb⟩ : ∃ x : V, ([.int (-1), .non, .bl true] : List V)[j]? = some x ∧ BadSteps x := by
        match j, hj with
        | 0, _ => exact ⟨_, rfl, .neg (by decide)⟩
        | 1, _ => exact ⟨_, rfl, .non⟩
        | 2, _ => exact ⟨_, rfl, .bl true⟩
        | j + 3, h => omega
      refine ⟨_, rfl, _, rfl, le_line (by simp), fun l hl => ?_⟩
      have sl : Same H14 (upd H14 l (.lst [.int (-1), .non, .bl true])) := same_new hl
      refine ⟨_, rfl, _, _, rfl, rfl, ⟨by decide, by decide⟩, _, _, rfl, rfl, (by show (0 : Int) < 3; decide), l, _, _, x, rfl, rfl, SqL.of upd_same, (by rw [show k / 4 % 3 = (j : Int) from ej]; exact atI_nat hx), ?_⟩
      refine ⟨m, st, n, _, _, _, rfl, M14.same sl, .inr (.inl ⟨rfl, m, st, n, 5, x, rfl, M14.same sl, e1000, .inr (.inl ⟨by decide, by decide, hb, rfl, rfl, fun l2 hl2 => ?_⟩)⟩)⟩
      exact kk l2 _ ((sH.trans sl).trans (same_new hl2)) upd_same
    refine ⟨_, rfl, _, _, rfl, rfl, (by show (0 : Int) < 4; decide), rfl, _, rfl, ?_⟩
    refine ite2 (fun h3 => ?_) (fun h3 => ?_)
    · obtain ⟨j, ej, hj⟩ := mod_nat (n := k / 4) (m := 4) (by decide)
      refine ⟨_, rfl, _, rfl, le_line (by simp), fun q1 hq1 => ?_⟩
      refine ⟨le_line (by simp), fun q2 hq2 => ?_⟩
      refine ⟨le_line (by simp), fun q3 hq3 => ?_⟩
      refine ⟨le_line (by simp), fun l hl => ?_⟩
      have t1 : Same H14 (upd H14 q1 (.lst [.int 0, .int (-1)])) := same_new hq1
      have t2 : Same (upd H14 q1 (.lst [.int 0, .int (-1)])) (upd (upd H14 q1 (.lst [.int 0, .int (-1)])) q2 (.tup [.int 0, .int 1])) := same_new hq2
      have t3 : Same (upd (upd H14 q1 (.lst [.int 0, .int (-1)])) q2 (.tup [.int 0, .int 1])) (upd (upd (upd H14 q1 (.lst [.int 0, .int (-1)])) q2 (.tup [.int 0, .int 1])) q3 (.lst [.bl true])) := same_new hq3
      have t4 : Same (upd (upd (upd H14 q1 (.lst [.int 0, .int (-1)])) q2 (.tup [.int 0, .int 1])) q3 (.lst [.bl true])) (upd (upd (upd (upd H14 q1 (.lst [.int 0, .int (-1)])) q2 (.tup [.int 0, .int 1])) q3 (.lst [.bl true])) l (.lst [.ref q1, .ref q2, .non, .ref q3])) := same_new hl
      have hq1' : (upd (upd (upd (upd H14 q1 (.lst [.int 0, .int (-1)])) q2 (.tup [.int 0, .int 1])) q3 (.lst [.bl true])) l (.lst [.ref q1, .ref q2, .non, .ref q3])) q1 = some (.lst [.int 0, .int (-1)]) := t4 _ _ (t3 _ _ (t2 _ _ upd_same))
      have hq2' : (upd (upd (upd (upd H14 q1 (.lst [.int 0, .int (-1)])) q2 (.tup [.int 0, .int 1])) q3 (.lst [.bl true])) l (.lst [.ref q1, .ref q2, .non, .ref q3])) q2 = some (.tup [.int 0, .int 1]) := t4 _ _ (t3 _ _ upd_same)
      have hq3' : (upd (upd (upd (upd H14 q1 (.lst [.int 0, .int (-1)])) q2 (.tup [.int 0, .int 1])) q3 (.lst [.bl true])) l (.lst [.ref q1, .ref q2, .non, .ref q3])) q3 = some (.lst [.bl true]) := t4 _ _ upd_same
      have hl' : (upd (upd (upd (upd H14 q1 (.lst [.int 0, .int (-1)])) q2 (.tup [.int 0, .int 1])) q3 (.lst [.bl true])) l (.lst [.ref q1, .ref q2, .non, .ref q3])) l = some (.lst [.ref q1, .ref q2, .non, .ref q3]) := upd_same
      have ts := t1.trans (t2.trans (t3.trans t4))
      generalize hG : upd (upd (upd (upd H14 q1 (.lst [.int 0, .int (-1)])) q2 (.tup [.int 0, .int 1])) q3 (.lst [.bl true])) l (.lst [.ref q1, .ref q2, .non, .ref q3]) = H15 at hq1' hq2' hq3' hl' ts ⊢
      clear t1 t2 t3 t4
      obtain ⟨x, hx, hb⟩ : ∃ x : V, ([.ref q1, .ref q2, .non, .ref q3] : List V)[j]? = some x ∧ CutArg H15 x none := by
        match j, hj with
        | 0, _ =>
          refine ⟨_, rfl, .bad hq1' (fun v hv => ?_) ⟨.int (-1), by simp, .neg (by decide)⟩⟩
          simp only [List.mem_cons, List.not_mem_nil, or_false] at hv
          rcases hv with e | e
          · exact .inl ⟨0, e⟩
          · exact .inr (by rw [e]; exact .neg (by decide))
        | 1, _ => exact ⟨_, rfl, .tup hq2'⟩
        | 2, _ => exact ⟨_, rfl, .non⟩
        | 3, _ =>
          refine ⟨_, rfl, .bad hq3' (fun v hv => ?_) ⟨.bl true, by simp, .bl true⟩⟩
          have e : v = .bl true := by simpa using hv
          exact .inr (by rw [e]; exact .bl true)
        | j + 4, h => omega
      refine ⟨_, rfl, _, _, rfl, rfl, ⟨by decide, by decide⟩, _, _, rfl, rfl, (by show (0 : Int) < 4; decide), l, _, _, x, rfl, rfl, SqL.of hl', (by rw [show k / 4 % 4 = (j : Int) from ej]; exact atI_nat hx), ?_⟩
      refine ⟨m, st, n, _, _, _, rfl, M14.same ts, .inr (.inr ⟨rfl, m, st, n, x, none, rfl, M14.same ts, hb, e1000, fun _ => ⟨rfl, rfl, fun l2 hl2 => ?_⟩, fun ch a e => by cases e⟩)⟩
      exact kk l2 _ ((sH.trans ts).trans (same_new hl2)) upd_same
    · obtain ⟨j, ej, hj⟩ := mod_nat (n := k / 4) (m := 11) (by decide)
      obtain ⟨⟨t, xs⟩, hw, hchk⟩ := menu_bad hj
      have hjl : j < ([.ref a1, .ref a2, .ref a3, .ref a4, .ref a5, .ref a6] ++ [.ref a8, .ref a9, .ref a10, .ref a11, .ref a12] : List V).length := hj
      obtain ⟨p, hp, a, r, ea, ha, hr'⟩ := m14.2 j _ (List.getElem?_eq_getElem hjl)
      rw [hw] at hp
      obtain rfl := Option.some.inj hp
      have hv : ([.ref a1, .ref a2, .ref a3, .ref a4, .ref a5, .ref a6] ++ [.ref a8, .ref a9, .ref a10, .ref a11, .ref a12] : List V)[j]? = some (.ref a) := by rw [List.getElem?_eq_getElem hjl, ea]
      have hat : atI ([.ref a1, .ref a2, .ref a3, .ref a4, .ref a5, .ref a6] ++ [.ref a8, .ref a9, .ref a10, .ref a11, .ref a12] : List V) (k / 4 % 11) = some (.ref a) := by rw [show k / 4 % 11 = (j : Int) from ej]; exact atI_nat hv
      refine ⟨_, rfl, _, rfl, _, rfl, _, _, rfl, rfl, ⟨by decide, by decide⟩, _, _, rfl, rfl, (by show (0 : Int) < 11; decide), mn, _, _, .ref a, rfl, rfl, SqL.of hMn, hat, a, _, _, .int t, rfl, rfl, SqT.of ha, atI_nat (j := 0) rfl, ?_⟩
      refine ⟨_, rfl, _, rfl, _, _, rfl, rfl, ⟨by decide, by decide⟩, _, _, rfl, rfl, (by show (0 : Int) < 11; decide), mn, _, _, .ref a, rfl, rfl, SqL.of hMn, hat, a, _, _, .ref r, rfl, rfl, SqT.of ha, atI_nat (j := 1) rfl, ?_⟩
      refine ⟨m, st, n, _, _, _, rfl, M14, .inl ⟨rfl, m, st, n, t, r, rfl, M14, W, hn, .inl ⟨xs, hr', hchk, rfl, rfl, fun l2 hl2 => ?_⟩⟩⟩
      exact kk l2 _ (sH.trans (same_new hl2)) upd_same
end
end DK

/-! One operation of the law. -/
namespace DK
open PySem L2
/-- a memory and the law's lists, in one state, apart -/
structure Both (CM CL : Addr) (H : Hp) (m : MA) (a : LA) (s : MS) (n k : Nat) : Prop where
  M : MemAt CM CL H m s n
  L : LawAt H a s k
  dj : ∀ b, b ∈ m.fp → b ∉ a.fp
section
variable {CM CL : Addr} {H H' : Hp} {m m' : MA} {a a' : LA} {s s' : MS} {n k n' : Nat}
/-- the memory goes on, the law's lists stay -/
theorem goM (M : MemAt CM CL H m s n) (L : LawAt H a s' k) (dj : ∀ b, b ∈ m.fp → b ∉ a.fp) (t : Step H m.fp H' m'.fp) :
    LawAt H' a s' k ∧ (∀ b, b ∈ m'.fp → b ∉ a.fp) ∧ Step H (m.fp ++ a.fp) H' (m'.fp ++ a.fp) := by
  refine ⟨L.step t fun b hb z => dj b z hb, fun b hb z => ?_, t.wide (fun b hb => List.mem_append_left _ hb) fun b hb => ?_⟩
  · rcases t.new b hb with q | q
    · exact dj b q z
    · exact L.fresh q z
  · rcases List.mem_append.mp hb with q | q
    · exact .inl q
    · exact .inr (List.mem_append_right _ q)
/-- the law's lists go on, the memory stays -/
theorem goL (M : MemAt CM CL H m s n) (L : LawAt H a s' k) (dj : ∀ b, b ∈ m.fp → b ∉ a.fp) (t : Step H a.fp H' a'.fp) :
    MemAt CM CL H' m s n ∧ (∀ b, b ∈ m.fp → b ∉ a'.fp) ∧ Step H (m.fp ++ a.fp) H' (m.fp ++ a'.fp) := by
  refine ⟨M.step t fun b hb => dj b hb, fun b hb z => ?_, t.wide (fun b hb => List.mem_append_right _ hb) fun b hb => ?_⟩
  · rcases t.new b z with q | q
    · exact dj b hb q
    · exact M.fresh q hb
  · rcases List.mem_append.mp hb with q | q
    · exact .inr (List.mem_append_left _ q)
    · exact .inl q
end
theorem dp_ints {K : PySem.W.Frag} {H : Hp} : ∀ ch : List Nat, DpAll K H (ch.map fun k : Nat => V.int (k : Int)) (ch.map fun k : Nat => PyData.int (k : Int))
  | [] => .nil
  | c :: r => .cons (.int _) (dp_ints r)
theorem gd_ints' (ch : List Nat) : ∀ d ∈ (ch.map fun k : Nat => PyData.int (k : Int)), Gd d := fun d hd => by
  obtain ⟨k, _, e⟩ := List.mem_map.mp hd
  rw [← e]; exact Gd.int _
section
variable {P : Program} {w : World} {K : PySem.W.Frag} {mg : Str → Option Value} {base : Heap}
theorem scStep : FnScope ["_law_memory", "_law_w", "_law_number", "_law_pick", "_law_other", "_law_cell", "_law_choices", "_law_passed", "_law_told", "_law_request_here", "_law_due_here", "_law_k"] ["_law_memory", "_law_w", "_law_number", "_law_pick", "_law_other"] (defScope sStep) :=
  ⟨rfl, rfl, rfl, by decide +kernel, rfl, by decide +kernel, by decide +kernel⟩
def spStep (CM CL : Addr) : Sp := fun vs H Q _ => ∃ (m : MA) (a : LA) (s : MS) (n : Nat) (i j k : Int), vs = [.ref m.p, .ref a.w, .int i, .int j, .int k] ∧ Both CM CL H m a s n n ∧ WF s n ∧ n < 900 ∧
  ∀ H' m' a' s' n', m'.p = m.p → a'.w = a.w → Both CM CL H' m' a' s' n' n' → WF s' n' → n' ≤ n + 1 → Step H (m.fp ++ a.fp) H' (m'.fp ++ a'.fp) → Q (.bl true) H'
theorem ok_step (T : Txt w K mg) : FnOk P w K mg base CX0 9 T.step.f T.step.fd ["_law_memory", "_law_w", "_law_number", "_law_pick", "_law_other"] (spStep T.CM T.CL) := by
  have GW : FnOk P w K mg base CX0 8 T.wrong.f T.wrong.fd ["_law_memory", "_law_number"] _ := ok_wrong T
  have GD : FnOk P w K mg base CX0 7 T.do_.f T.do_.fd ["_law_memory", "_law_act", "_law_first", "_law_second"] _ := ok_do T
  have GS : FnOk P w K mg base CX0 1 T.lShorten.f T.lShorten.fd ["_law_w", "_law_cell", "_law_steps"] _ := ok_lShorten T
  have GC : FnOk P w K mg base CX0 2 T.lCut.f T.lCut.fd ["_law_w", "_law_choices"] _ := ok_lCut T
  have GR : FnOk P w K mg base CX0 2 T.request.f T.request.fd ["_law_w", "_law_number", "_law_pick", "_law_other"] _ := ok_request T
  have GU : FnOk P w K mg base CX0 2 T.due.f T.due.fd ["_law_w", "_law_thread", "_law_request_here"] _ := ok_due T
  have GE : FnOk P w K mg base CX0 1 T.same.f T.same.fd ["_law_told", "_law_due_here"] _ := ok_same T
  refine T.step.F.ok scStep (fun vs H Q E h => ?_) (fun cdv A outer s H vs Q E hr h => ?_)
  · obtain ⟨m, a, s, n, i, j, k, rfl, _⟩ := h
    rfl
  · obtain ⟨m, a, st, n, i, j, k, rfl, ⟨M, L, dj⟩, W, hn, kk⟩ := h
    have hu := hu_of hr
    have hr1 : Room 1 _ := hr.mono (by decide)
    have hr2 : Room 2 _ := hr.mono (by decide)
    have hr7 : Room 7 _ := hr.mono (by decide)
    refine ⟨_, pss_cons (ps_if (pt_cmpR op_eq (pe_op op_mod (pv 2) pe_int) pe_int (nomark _))
        (pss_one (ps_ret (pe_cmpR (op_eqD hr.units) (pe_call GW hr rfl T.wrong.g T.wrong.F.kp T.wrong.b .nil pass0 (pa_cons (pv 0) (pa_cons (pv 3) pa_nil))) (pe_lst (pa_cons pe_str (pa_cons pe_bl pa_nil))) (nomark _)))) pss_nil)
      (pss_cons (ps_if (pt_cmpR op_eq (pe_op op_mod (pv 2) pe_int) pe_int (nomark _))
        (pss_cons (ps_set (i := 5) scStep.nd rfl (Or.inl rfl) (pe_ix ix_list (pe_lst (pa_cons pe_int (pa_cons pe_int (pa_cons pe_int (pa_cons pe_int pa_nil))))) (pe_op op_mod (pv 3) pe_int) (fun _ _ => rfl)))
        (pss_cons (ps_if (pt_cmpR op_notN (pe_call GD hr7 rfl T.do_.g T.do_.F.kp T.do_.b .nil pass0 (pa_cons (pv 0) (pa_cons pe_str (pa_cons (pv 5) (pa_cons (pe_op op_mod (pv 4) pe_int) pa_nil))))) pe_non (nomark _)) (pss_one (ps_ret pe_bl)) pss_nil)
        (pss_cons (ps_expr (pe_call GS hr1 rfl T.lShorten.g T.lShorten.F.kp T.lShorten.b .nil pass0 (pa_cons (pv 1) (pa_cons (pv 5) (pa_cons (pe_op op_mod (pv 4) pe_int) pa_nil)))))
        (pss_one (ps_ret pe_bl))))) pss_nil)
      (pss_cons (ps_if (PW.pt (pw_and (pt_cmpR op_eq (pe_op op_mod (pv 2) pe_int) pe_int (nomark _)) (pw_and1 (pt_cmpR op_eq (pe_op op_mod (pv 3) pe_int) pe_int (nomark _)))))
        (pss_cons (ps_setLc (i := 6) (own := [("_law_k", 11)]) (g := gName 11) (tt := tYes) rfl scStep.nd rfl rfl (sw_true rfl rfl rfl (by decide +kernel)) (pi_range1 rfl T.bRange (pa_cons (pe_op op_mod (pv 3) pe_int) pa_nil))
          (blkOk_by (N := ["_law_memory", "_law_w", "_law_number", "_law_pick", "_law_other", "_law_cell", "_law_choices", "_law_passed", "_law_told", "_law_request_here", "_law_due_here", "_law_k"]) (sc := defScope sStep) (by decide +kernel))
          (fun _ _ _ _ _ => pg_name (i := 11) scStep.nd rfl (Or.inl rfl)) (fun _ _ _ _ _ => pts_nil)
          (fun _ _ _ _ _ => pe_op op_mul (pe_op op_mod (pe_op op_add (pv 4) (pe_op op_mul pe_int (pv 11))) pe_int) (pe_op op_mod (pe_op op_add (pe_op op_fdiv (pv 3) pe_int) (pv 11)) pe_int)))
        (pss_cons (ps_set (i := 7) scStep.nd rfl (Or.inl rfl) (pe_callTy call_list_of (by rfl) T.bList boot_list' (pa_cons (pv 6) pa_nil)))
        (pss_cons (ps_set (i := 8) scStep.nd rfl (Or.inl rfl) (pe_call GD hr7 rfl T.do_.g T.do_.F.kp T.do_.b .nil pass0 (pa_cons (pv 0) (pa_cons pe_str (pa_cons (pv 7) (pa_cons pe_non pa_nil))))))
        (pss_cons (ps_expr (pe_call GC hr2 rfl T.lCut.g T.lCut.F.kp T.lCut.b .nil pass0 (pa_cons (pv 1) (pa_cons (pv 6) pa_nil))))
        (pss_one (ps_ret (pe_and (pe_cmp (pc_isN (pv 8)) rfl) (pe_one (pe_cmpR (op_eqD hr.units) (pv 7) (pv 6) (nomark _)))))))))) pss_nil)
      (pss_cons (ps_set (i := 9) scStep.nd rfl (Or.inl rfl) (pe_call GR hr2 rfl T.request.g T.request.F.kp T.request.b .nil pass0 (pa_cons (pv 1) (pa_cons (pe_op op_fdiv (pv 2) pe_int) (pa_cons (pv 3) (pa_cons (pv 4) pa_nil))))))
      (pss_cons (ps_dput hu (pv 1) pe_str (pe_op op_add (pe_dget hu (pv 1) pe_str (fun _ _ => rfl)) pe_int) rfl)
      (pss_cons (ps_set (i := 10) scStep.nd rfl (Or.inl rfl) (pe_call GU hr2 rfl T.due.g T.due.F.kp T.due.b .nil pass0 (pa_cons (pv 1) (pa_cons (pe_op op_mod (pe_op op_fdiv (pv 2) pe_int) pe_int) (pa_cons (pv 9) pa_nil)))))
      (pss_cons (ps_set (i := 8) scStep.nd rfl (Or.inl rfl) (pe_call GD hr7 rfl T.do_.g T.do_.F.kp T.do_.b .nil pass0 (pa_cons (pv 0) (pa_cons pe_str (pa_cons (pe_op op_mod (pe_op op_fdiv (pv 2) pe_int) pe_int) (pa_cons (pv 9) pa_nil))))))
      (pss_one (ps_ret (pe_and (pe_callB call_isi (by rfl) T.bIsinstance boot_isi (pa_cons (pv 8) (pa_cons (pe_bltn (v := .ty "tuple") (by rfl) T.bTuple boot_tuple' rfl) pa_nil)))
        (pe_and (pe_cmpR op_eq (pe_callB call_len_seq (by rfl) T.bLen PySem.boot_len (pa_cons (pv 8) pa_nil)) pe_int (nomark _))
        (pe_and (pe_cmpR op_eq (pe_ix ix_tup (pv 8) pe_int (fun _ _ => rfl)) (pe_dget hu (pv 1) pe_str (fun _ _ => rfl)) (nomark _))
        (pe_one (pe_call GE hr1 rfl T.same.g T.same.F.kp T.same.b .nil pass0 (pa_cons (pe_ix ix_tup (pv 8) pe_int (fun _ _ => rfl)) (pa_cons (pv 10) pa_nil))))))))))))))), ?_⟩
    have e1000 : WF st 1000 := W.mono (by omega)
    refine ⟨_, rfl, _, _, rfl, rfl, (by show (0 : Int) < 11; decide), rfl, _, rfl, ?_⟩
    refine ite2 (fun h1 => ?_) (fun h1 => ?_)
    · -- what is not valid
      refine ⟨_, rfl, _, rfl, m, st, n, j, rfl, M, W, by omega, fun l H1 s1 hl => ?_⟩
      refine ⟨le_line (by simp), fun q hq => ?_⟩
      have s2 : Same H1 (upd H1 q (.lst [.str "refused", .bl true])) := same_new hq
      have s12 := s1.trans s2
      refine ⟨.list [.str "refused", .bool true], .list [.str "refused", .bool true], .lst (SqL.of (s2 _ _ hl)) (.cons (.str _) (.cons (.bl true) .nil)), .lst (SqL.of upd_same) (.cons (.str _) (.cons (.bl true) .nil)), by decide +kernel, by decide +kernel, ?_⟩
      rw [show PyData.eqv (.list [.str "refused", .bool true]) (.list [.str "refused", .bool true]) = true by decide +kernel]
      exact kk _ m a st n rfl rfl ⟨M.same s12, L.same s12, dj⟩ W (by omega) (Step.same s12)
    refine ⟨_, rfl, _, _, rfl, rfl, (by show (0 : Int) < 11; decide), rfl, _, rfl, ?_⟩
    refine ite2 (fun h2 => ?_) (fun h2 => ?_)
    · -- a drift
      obtain ⟨u, eu, hu4⟩ := mod_nat (n := j) (m := 4) (by decide)
      obtain ⟨d, ed, hd5⟩ := mod_nat (n := k) (m := 5) (by decide)
      obtain ⟨c, hc, h3, h13⟩ : ∃ c : Nat, ([.int 5, .int 6, .int 7, .int 3] : List V)[u]? = some (.int (c : Int)) ∧ 3 ≤ c ∧ c < 13 := by
        match u, hu4 with
        | 0, _ => exact ⟨5, rfl, by decide, by decide⟩
        | 1, _ => exact ⟨6, rfl, by decide, by decide⟩
        | 2, _ => exact ⟨7, rfl, by decide, by decide⟩
        | 3, _ => exact ⟨3, rfl, by decide, by decide⟩
        | u + 4, h => omega
      have ed' : k % 5 = (d : Int) := ed
      refine ⟨le_line (by simp), fun l hl => ?_⟩
      have s1 : Same H (upd H l (.lst [.int 5, .int 6, .int 7, .int 3])) := same_new hl
      refine ⟨_, rfl, _, _, rfl, rfl, (by show (0 : Int) < 4; decide), l, _, _, .int (c : Int), rfl, rfl, SqL.of upd_same, (by rw [show j % 4 = (u : Int) from eu]; exact atI_nat hc), ?_⟩
      have M1 := M.same s1
      have L1 := L.same s1
      refine ⟨_, rfl, _, rfl, _, rfl, _, _, rfl, rfl, (by show (0 : Int) < 5; decide), m, st, n, _, _, _, rfl, M1, .inr (.inl ⟨rfl, m, st, n, c, .int (k % 5), rfl, M1, e1000, .inr (.inr ⟨c, d, rfl, congrArg V.int ed', h3, h13, fun H2 A2 => ?_⟩)⟩)⟩
      obtain ⟨m2, e2, M2, S2⟩ := A2
      obtain ⟨L2, dj2, S2'⟩ := goM M1 L1 dj S2
      refine ⟨rfl, _, rfl, ?_⟩
      rw [decide_eq_true rfl]
      refine iteF ?_
      refine ⟨_, rfl, _, rfl, _, rfl, _, _, rfl, rfl, (by show (0 : Int) < 5; decide), a, st, n, c, d, (by show [V.ref a.w, V.int (c : Int), V.int (k % 5)] = _; rw [ed']), L2, e1000, h13, fun H3 A3 => ?_⟩
      obtain ⟨a3, e3, L3, S3⟩ := A3
      obtain ⟨M3, dj3, S3'⟩ := goL M2 L2 dj2 S3
      exact kk _ m2 a3 _ n e2 e3 ⟨M3, L3, dj3⟩ (W.shorten h13 d) (by omega) (((Step.same s1).trans S2').trans S3')
    refine ⟨_, rfl, _, _, rfl, rfl, (by show (0 : Int) < 11; decide), rfl, _, rfl, ?_⟩
    refine ite2 (fun h3 => ?c1) (fun h3 => ?c2)
    case' c1 =>
      refine ⟨_, rfl, _, _, rfl, rfl, (by show (0 : Int) < 3; decide), rfl, _, rfl, ?_⟩
      refine ite2 (fun h4 => ?cut) (fun h4 => ?c3)
    case cut =>
      obtain ⟨q13, eq13, hq13⟩ := mod_nat (n := j) (m := 13) (by decide)
      have eq13 : j % 13 = (q13 : Int) := eq13
      refine ⟨_, rfl, _, _, rfl, rfl, (by show (0 : Int) < 13; decide), _, rfl, by rw [eq13]; omega, by rw [eq13]; omega, fun D hD => ?_⟩
      have hDm : D ∉ m.fp := M.fresh hD
      have hDa : D ∉ a.fp := L.fresh hD
      refine lc_range (lo := 0) (n := (j % 13).toNat) (fun i H' => ∃ ch : List Nat, ch.length = i ∧ H' = upd H D (.lst (ch.map fun x : Nat => V.int (x : Int)))) ⟨[], rfl, rfl⟩ ?_ ?_
      · rintro z H' hz ⟨ch, hlen, rfl⟩
        obtain ⟨u, eu, hu4⟩ := mod_nat (n := k + 3 * (0 + (z : Int))) (m := 4) (by decide)
        obtain ⟨v, ev, hv2⟩ := mod_nat (n := j / 3 + (0 + (z : Int))) (m := 2) (by decide)
        have eu : (k + 3 * (0 + (z : Int))) % 4 = (u : Int) := eu
        have ev : (j / 3 + (0 + (z : Int))) % 2 = (v : Int) := ev
        have hz13 : z < 13 := by
          have : (j % 13).toNat = q13 := by rw [eq13]; exact Int.toNat_natCast _
          omega
        refine ⟨rfl, ?_⟩
        refine ⟨_, rfl, _, rfl, _, _, rfl, rfl, .inl ⟨by decide, by decide⟩, _, _, rfl, rfl, _, _, rfl, rfl, (by show (0 : Int) < 4; decide), _, rfl, _, _, rfl, rfl, ⟨by decide, by decide⟩, _, rfl, _, _, rfl, rfl, _, _, rfl, rfl, (by show (0 : Int) < 2; decide), _, _, rfl, rfl, .inl ?_, ?_⟩
        · rw [eu]; constructor <;> omega
        · refine ⟨_, upd_same, lt_line (by rw [List.length_map]; omega), ch ++ [u * v], by rw [List.length_append, hlen]; rfl, ?_⟩
          rw [upd_upd, List.map_append]
          have e : (V.int ((k + 3 * (0 + (z : Int))) % 4 * ((j / 3 + (0 + (z : Int))) % 2))) = V.int ((u * v : Nat) : Int) := by rw [eu, ev, Int.natCast_mul]
          exact congrArg (fun y => upd H D (.lst (ch.map (fun x : Nat => V.int (x : Int)) ++ [y]))) e
      · rintro H' ⟨ch, hlen, rfl⟩
        have s1 : Same H (upd H D (.lst (ch.map fun x : Nat => V.int (x : Int)))) := same_new hD
        have hD1 : (upd H D (.lst (ch.map fun x : Nat => V.int (x : Int)))) D = some (.lst (ch.map fun x : Nat => V.int (x : Int))) := upd_same
        generalize hH1 : upd H D (.lst (ch.map fun x : Nat => V.int (x : Int))) = H1 at s1 hD1 ⊢
        refine ⟨_, rfl, D, _, rfl, .inl (SqL.of hD1), fun l hl => ?_⟩
        have s2 : Same H1 (upd H1 l (.lst (ch.map fun x : Nat => V.int (x : Int)))) := same_new hl
        have hl2 : (upd H1 l (.lst (ch.map fun x : Nat => V.int (x : Int)))) l = some (.lst (ch.map fun x : Nat => V.int (x : Int))) := upd_same
        have hD2 := s2 _ _ hD1
        have hl0 : H l = none := s1.free hl
        have hlm : l ∉ m.fp := M.fresh hl0
        have hla : l ∉ a.fp := L.fresh hl0
        have s12 := s1.trans s2
        generalize hH2 : upd H1 l (.lst (ch.map fun x : Nat => V.int (x : Int))) = H2 at s2 hl2 hD2 s12 ⊢
        have M2 := M.same s12
        have L2 := L.same s12
        refine ⟨_, rfl, _, rfl, m, st, n, _, _, _, rfl, M2, .inr (.inr ⟨rfl, m, st, n, .ref l, some ch, rfl, M2, .good hl2, e1000, (fun e => by cases e), ?_⟩)⟩
        intro ch' b e1 e2
        cases e1
        cases e2
        refine ⟨hlm, fun H3 A3 => ?_⟩
        obtain ⟨m3, e3, M3, S3⟩ := A3
        obtain ⟨L3, dj3, S3'⟩ := goM M2 L2 dj S3
        have hD3 := S3.keep _ _ hD2 hDm
        have hl3 := S3.keep _ _ hl2 hlm
        refine ⟨_, rfl, _, rfl, a, st, n, D, ch, rfl, L3, e1000, hD3, hDa, fun H4 A4 => ?_⟩
        obtain ⟨a4, e4, L4, S4⟩ := A4
        obtain ⟨M4, dj4, S4'⟩ := goL M3 L3 dj3 S4
        have hD4 := S4.keep _ _ hD3 hDa
        have hl4 := S4.keep _ _ hl3 hla
        refine ⟨_, rfl, _, rfl, ?_⟩
        rw [decide_eq_true rfl]
        refine iteT ?_
        refine ⟨_, rfl, _, rfl, .list (ch.map fun x : Nat => PyData.int (x : Int)), .list (ch.map fun x : Nat => PyData.int (x : Int)), .lst (SqL.of hl4) (dp_ints ch), .lst (SqL.of hD4) (dp_ints ch), shaped_list (gd_ints' ch), shaped_list (gd_ints' ch), ?_⟩
        rw [eqv_list (gd_ints' ch)]
        exact kk _ m3 a4 _ n e3 e4 ⟨M4, L4, dj4⟩ (W.cut ch) (by omega) (((Step.same s12).trans S3').trans S4')
    case' c2 => refine iteF ?_
    all_goals (
      refine ⟨_, rfl, _, rfl, _, _, rfl, rfl, ⟨by decide, by decide⟩, _, rfl, _, rfl, a, st, n, _, _, _, rfl, L, e1000, fun r rq H1 s1 hq ho => ?_⟩
      have M1 := M.same s1
      have L1 := L.same s1
      have hL1 : DPut H1 a.w (.str "count") (.int ((n : Int) + 1)) (upd H1 a.w (.dK (wk (n + 1) a.co.tr a.co.nt))) := by
        rw [← wk_put_count]
        exact DPut.k (k := Sum.inr "count") L1.hw (by show 3 < sizeLine; exact lt_line (by decide))
      refine ⟨_, rfl, a.w, _, rfl, L1.gc, _, _, rfl, rfl, _, rfl, a.w, _, rfl, hL1, ?_⟩
      obtain ⟨L2, S2⟩ := L1.reput (n' := n + 1) L1.co (Step.refl _ _)
      generalize hH2 : upd H1 a.w (.dK (wk (n + 1) a.co.tr a.co.nt)) = H2 at L2 S2 ⊢
      obtain ⟨M2, dj2, S2'⟩ := goL M1 L1 dj S2
      obtain ⟨t, et, ht⟩ := mod_nat (n := i / 110) (m := 2) (by decide)
      have et : i / 110 % 2 = (t : Int) := et
      have w1 : WF st (n + 1) := W.mono (by omega)
      have wg := W.acc ht ho
      refine ⟨_, rfl, _, rfl, _, _, rfl, rfl, ⟨by decide, by decide⟩, _, _, rfl, rfl, (by show (0 : Int) < 2; decide), _, rfl, a, st, n + 1, t, r, rq, (by show [V.ref a.w, V.int (i / 110 % 2), V.ref r] = _; rw [et]), L2, e1000, ht, hq.to S2.tups, ho, fun v H3 dv A3 => ?_⟩
      obtain ⟨a3, e3, L3, S3⟩ := A3
      obtain ⟨M3, dj3, S3'⟩ := goL M2 L2 dj2 S3
      refine ⟨_, rfl, _, rfl, _, _, rfl, rfl, ⟨by decide, by decide⟩, _, _, rfl, rfl, (by show (0 : Int) < 2; decide), _, rfl, m, st, n, _, _, _, rfl, M3, .inl ⟨rfl, m, st, n, i / 110 % 2, r, rfl, M3, W, by omega, .inr ⟨t, rq, et, ht, (hq.to S2.tups).to S3.tups, ho, fun u p H4 du A4 hp => ?_⟩⟩⟩
      obtain ⟨m4, e4, M4, S4⟩ := A4
      obtain ⟨L4, dj4, S4'⟩ := goM M3 L3 dj3 S4
      refine ⟨_, rfl, _, _, _, _, true, rfl, .ty "tuple", .base (.tup hp), kit_tt, true, rfl, iteT ?_⟩
      refine ⟨_, rfl, _, _, rfl, .inr (SqT.of hp), rfl, true, rfl, iteT ?_⟩
      have gc4 : DGet H4 a.w (.str "count") (some (.int ((n + 1 : Nat) : Int))) := by
        have := L4.gc
        rw [e3] at this; exact this
      refine ⟨_, rfl, p, _, _, .int ((n + 1 : Nat) : Int), rfl, rfl, SqT.of hp, atI_nat (j := 1) rfl, _, rfl, a.w, _, rfl, gc4, rfl, true, (by rw [decide_eq_true rfl]), iteT ?_⟩
      refine ⟨_, rfl, p, _, _, u, rfl, rfl, SqT.of hp, atI_nat (j := 0) rfl, _, rfl, u, v, (acc st (n + 1) t rq).1, rfl, du, dv.to S4.tups, wg.2, ?_⟩
      exact kk _ m4 a3 _ (n + 1) e4 e3 ⟨M4, L4, dj4⟩ wg.1 (by omega) ((((Step.same s1).trans S2').trans S3').trans S4'))
end
end DK

/-! The law. -/
namespace DK
open PySem L2
theorem wk_made {D q : Addr} : putK (putK (mergeK [] [((Sum.inr ("count" : Str) : Key), V.int 0)]) (Sum.inr ("trails" : Str)) (.ref D)) (Sum.inr ("notes" : Str)) (.ref q) = wk 0 D q := by
  have e1 : decide ((Sum.inr ("count" : Str) : Key) = Sum.inr ("trails" : Str)) = false := by decide +kernel
  have e2 : decide ((Sum.inr ("count" : Str) : Key) = Sum.inr ("notes" : Str)) = false := by decide +kernel
  have e3 : decide ((Sum.inr ("trails" : Str) : Key) = Sum.inr ("notes" : Str)) = false := by decide +kernel
  have h1 : mergeK [] [((Sum.inr ("count" : Str) : Key), V.int 0)] = [((Sum.inr ("count" : Str) : Key), V.int 0)] := rfl
  have h2 : putK [((Sum.inr ("count" : Str) : Key), V.int 0)] (Sum.inr ("trails" : Str)) (.ref D) = [((Sum.inr ("count" : Str) : Key), V.int 0), (Sum.inr ("trails" : Str), .ref D)] := by
    unfold putK
    rw [if_neg (by simp only [List.any_cons, e1, List.any_nil, Bool.or_false]; exact Bool.false_ne_true)]
    rfl
  rw [h1, h2]
  unfold putK
  rw [if_neg (by simp only [List.any_cons, e2, e3, List.any_nil, Bool.or_false]; exact Bool.false_ne_true)]
  rfl
theorem len_merge : (mergeK [] [((Sum.inr ("count" : Str) : Key), V.int 0)]).length < sizeLine := by
  show 1 < sizeLine
  exact lt_line (by decide)
theorem len_put2 {D : Addr} : (putK (mergeK [] [((Sum.inr ("count" : Str) : Key), V.int 0)]) (Sum.inr ("trails" : Str)) (.ref D)).length < sizeLine := by
  have h := length_putK (mergeK [] [((Sum.inr ("count" : Str) : Key), V.int 0)]) (Sum.inr ("trails" : Str)) (V.ref D)
  have h1 : (mergeK [] [((Sum.inr ("count" : Str) : Key), V.int 0)]).length = 1 := rfl
  exact lt_line (by omega)
theorem ms0_one {c : Nat} (h : c < 13) : ∃ d, ms0.tr.getD c [] = [d] := by
  have e : ms0.tr = [[.int 0], [.none], [.none], [.none], [.none], [.int 7], [.int 8], [itemsD], [itemsD], [.none], [.none], [.none], [.none]] := rfl
  rw [e]
  match c, h with
  | 0, _ => exact ⟨_, rfl⟩
  | 1, _ => exact ⟨_, rfl⟩
  | 2, _ => exact ⟨_, rfl⟩
  | 3, _ => exact ⟨_, rfl⟩
  | 4, _ => exact ⟨_, rfl⟩
  | 5, _ => exact ⟨_, rfl⟩
  | 6, _ => exact ⟨_, rfl⟩
  | 7, _ => exact ⟨_, rfl⟩
  | 8, _ => exact ⟨_, rfl⟩
  | 9, _ => exact ⟨_, rfl⟩
  | 10, _ => exact ⟨_, rfl⟩
  | 11, _ => exact ⟨_, rfl⟩
  | 12, _ => exact ⟨_, rfl⟩
  | c + 13, h => omega
section
variable {P : Program} {w : World} {K : PySem.W.Frag} {mg : Str → Option Value} {base : Heap}
theorem scLaw : FnScope ["_law_script", "_law_tape_here", "_law_memory", "_law_w", "_law_k", "_law_cell"] ["_law_script"] (defScope sLaw) := ⟨rfl, rfl, rfl, by decide +kernel, rfl, by decide +kernel, by decide +kernel⟩
def spLaw (K : PySem.W.Frag) : Sp := fun vs H Q _ => ∃ (a : Addr) (ns : List Int), vs = [.ref a] ∧ SqL K H a (ns.map V.int) ∧ ns.length ≤ 63 ∧ ∀ H', Q (.bl true) H'
theorem ok_law {f : Addr} {fd : FuncData} (F : Fun K "law" "law" sLaw f fd) (T : Txt w K mg) : FnOk P w K mg base CX0 10 f fd ["_law_script"] (spLaw K) := by
  have GT : FnOk P w K mg base CX0 1 T.tape.f T.tape.fd ["_law_script"] _ := ok_tape T
  have GM : FnOk P w K mg base CX0 3 T.mInit.f T.mInit.fd ["self", "layout"] _ := ok_mInit T
  have GL : FnOk P w K mg base CX0 2 T.lInit.f T.lInit.fd ["self", "threads", "words", "records"] _ := ok_lInit T
  have GP : FnOk P w K mg base CX0 3 T.peek.f T.peek.fd ["self", "cell"] _ := ok_peek T
  have GA : FnOk P w K mg base CX0 1 T.at_.f T.at_.fd ["_law_tape_here", "_law_k"] _ := ok_at T
  have GS : FnOk P w K mg base CX0 9 T.step.f T.step.fd ["_law_memory", "_law_w", "_law_number", "_law_pick", "_law_other"] _ := ok_step T
  have GK : FnOk P w K mg base CX0 6 T.looks.f T.looks.fd ["_law_memory", "_law_w"] _ := ok_looks T
  have GG : FnOk P w K mg base CX0 1 T.log.f T.log.fd ["self"] _ := ok_log T
  refine F.ok scLaw (fun vs H Q E h => ?_) (fun cdv A outer s H vs Q E hr h => ?_)
  · obtain ⟨a, ns, rfl, _⟩ := h
    rfl
  · obtain ⟨sc, ns, rfl, hS, hlen, kk⟩ := h
    have hu := hu_of hr
    have hr1 : Room 1 _ := hr.mono (by decide)
    refine ⟨_, pss_cons (ps_set (i := 1) scLaw.nd rfl (Or.inl rfl) (pe_call GT hr1 rfl T.tape.g T.tape.F.kp T.tape.b .nil pass0 (pa_cons (pv 0) pa_nil)))
      (pss_cons (ps_set (i := 2) scLaw.nd rfl (Or.inr rfl) (pe_make ⟨T.mkM, T.mInit.m.at_, T.mInit.m.fn, T.kcM⟩ GM (hr.mono (by decide)) rfl T.gM T.mInit.b .nil pass0
        (pa_cons (pe_make ⟨T.mkL, T.lInit.m.at_, T.lInit.m.fn, T.kcL⟩ GL (hr.mono (by decide)) rfl T.gL T.lInit.b .nil pass0 (pa_cons pe_int (pa_cons pe_int (pa_cons pe_int pa_nil)))) pa_nil)))
      (pss_cons (ps_set (i := 3) scLaw.nd rfl (Or.inl rfl) (pe_callTy (call_dictP rfl) (by rfl) T.bDict boot_dict' (pa_cons (pe_lst (pa_cons (pe_tup (pa_cons pe_str (pa_cons pe_int pa_nil))) pa_nil)) pa_nil)))
      (pss_cons (ps_dput hu (pv 3) pe_str (pe_lc (own := [("_law_cell", 5)]) (g := gName 5) (tt := tYes) rfl scLaw.nd (pi_range1 rfl T.bRange (pa_cons pe_int pa_nil))
        (blkOk_by (N := ["_law_script", "_law_tape_here", "_law_memory", "_law_w", "_law_k", "_law_cell"]) (sc := defScope sLaw) (by decide +kernel)) (fun _ _ _ _ _ => pg_name (i := 5) scLaw.nd rfl (Or.inl rfl)) (fun _ _ _ _ _ => pts_nil)
        (fun _ _ _ _ _ => pe_lst (pa_cons (pe_meth (pv 2) T.clM T.peek.m GP (hr.mono (by decide)) T.peek.b .nil pass0 (pa_cons (pv 5) pa_nil)) pa_nil))) rfl)
      (pss_cons (ps_dput hu (pv 3) pe_str (pe_lst (pa_cons pe_dnewK (pa_cons pe_dnewK pa_nil))) rfl)
      (pss_cons (ps_for PassesOwn.never rfl (pi_range1 rfl T.bRange (pa_cons (pe_callB (call_min2 rfl) (by rfl) T.bMin boot_min'
          (pa_cons (pe_ix ix_list (pe_lst (pa_cons pe_int (pa_cons pe_int pa_nil))) (pe_op op_mod (pe_call GA hr1 rfl T.at_.g T.at_.F.kp T.at_.b .nil pass0 (pa_cons (pv 1) (pa_cons pe_int pa_nil))) pe_int) (fun _ _ => rfl))
          (pa_cons (pe_callB (call_max2 rfl) (by rfl) T.bMax boot_max' (pa_cons pe_int (pa_cons (pe_op op_fdiv (pe_op op_sub (pe_callB call_len_seq (by rfl) T.bLen PySem.boot_len (pa_cons (pv 1) pa_nil)) pe_int) pe_int) pa_nil))) pa_nil))) pa_nil))
          (pg_name (i := 4) scLaw.nd rfl (Or.inl rfl))
        (pss_cons (ps_if (pt_not (pt_val (pe_call GS hr rfl T.step.g T.step.F.kp T.step.b .nil pass0 (pa_cons (pv 2) (pa_cons (pv 3)
            (pa_cons (pe_call GA hr1 rfl T.at_.g T.at_.F.kp T.at_.b .nil pass0 (pa_cons (pv 1) (pa_cons (pe_op op_add (pe_op op_mul pe_int (pv 4)) pe_int) pa_nil)))
            (pa_cons (pe_call GA hr1 rfl T.at_.g T.at_.F.kp T.at_.b .nil pass0 (pa_cons (pv 1) (pa_cons (pe_op op_add (pe_op op_mul pe_int (pv 4)) pe_int) pa_nil)))
            (pa_cons (pe_call GA hr1 rfl T.at_.g T.at_.F.kp T.at_.b .nil pass0 (pa_cons (pv 1) (pa_cons (pe_op op_add (pe_op op_mul pe_int (pv 4)) pe_int) pa_nil))) pa_nil)))))))) (pss_one (ps_ret pe_bl)) pss_nil)
        (pss_one (ps_if (pt_not (pt_val (pe_call GK (hr.mono (by decide)) rfl T.looks.g T.looks.F.kp T.looks.b .nil pass0 (pa_cons (pv 2) (pa_cons (pv 3) pa_nil))))) (pss_one (ps_ret pe_bl)) pss_nil))))
      (pss_one (ps_ret (pe_cmpR op_eq (pe_callB call_len_seq (by rfl) T.bLen PySem.boot_len (pa_cons (pe_meth0 (pv 2) T.clM T.log.m GG hr1 T.log.b .nil pass0) pa_nil)) (pe_dget hu (pv 3) pe_str (fun _ _ => rfl)) (nomark _))))))))), ?_⟩
    -- the tape
    refine ⟨_, rfl, sc, ns, rfl, hS, hlen, fun tp ts htp hts => ?_⟩
    have ht1 : (upd H tp (.lst (ts.map V.int))) tp = some (.lst (ts.map V.int)) := upd_same
    generalize hH1 : upd H tp (.lst (ts.map V.int)) = H1 at ht1 ⊢
    -- the memory
    intro x dx hx hdx hne
    refine ⟨x, dx, rfl, upd_same, fun H2 hx2 kp2 => ⟨rfl, ?_⟩⟩
    have ht2 : H2 tp = some (.lst (ts.map V.int)) := kp2 tp _ (ne_of_none ht1 hx) (by rw [upd_ne (ne_of_none ht1 hx), upd_ne (ne_of_none ht1 hdx)]; exact ht1)
    intro y dy hy hdy hne2
    have nyx : y ≠ x := (ne_of_none hx2 hy).symm
    have h3x : (upd (upd H2 dy (.own y)) y (.ins T.CM dy [])) x = some (.ins T.CL dx lf) := by rw [upd_ne nyx.symm, upd_ne (ne_of_none hx2 hdy)]; exact hx2
    have ht2' : (upd (upd H2 dy (.own y)) y (.ins T.CM dy [])) tp = some (.lst (ts.map V.int)) := by rw [upd_ne (ne_of_none ht2 hy), upd_ne (ne_of_none ht2 hdy)]; exact ht2
    refine ⟨y, dy, x, dx, rfl, upd_same, h3x, nyx, fun H3 m em M3 S3 => ⟨rfl, ?_⟩⟩
    obtain ⟨ht3, htm⟩ := S3.out ht2' (by
      simp only [List.mem_cons, List.not_mem_nil, or_false, not_or]
      exact ⟨ne_of_none ht2 hy, ne_of ht2 hx2 (by intro z; cases z)⟩)
    clear ht2' h3x S3
    have hmp : H3 y = some (.ins T.CM m.dx (mf m.ly 0 m.rows m.co.tr m.co.nt)) := by rw [← em]; exact M3.hp
    -- the law's dict
    refine ⟨le_line (by simp), fun p1 hp1 => ⟨le_line (by simp), fun l1 hl1 => ?_⟩⟩
    have s1 : Same H3 (upd H3 p1 (.tup [.str "count", .int 0])) := same_new hp1
    have s2 : Same (upd H3 p1 (.tup [.str "count", .int 0])) (upd (upd H3 p1 (.tup [.str "count", .int 0])) l1 (.lst [.ref p1])) := same_new hl1
    refine ⟨l1, [p1], [((Sum.inr ("count" : Str) : Key), V.int 0)], rfl, SqL.of upd_same, .cons (SqT.of (s2 _ _ upd_same)) .nil, fun wd hwd => ?_⟩
    have s12 := s1.trans s2
    generalize hH4 : upd (upd H3 p1 (.tup [.str "count", .int 0])) l1 (.lst [.ref p1]) = H4 at s12 hwd ⊢
    have hw3 : H3 wd = none := s12.free hwd
    have s5 : Same H3 (upd H4 wd (.dK (mergeK [] [((Sum.inr ("count" : Str) : Key), V.int 0)]))) := s12.trans (same_new hwd)
    have hw5 : (upd H4 wd (.dK (mergeK [] [((Sum.inr ("count" : Str) : Key), V.int 0)]))) wd = some (.dK (mergeK [] [((Sum.inr ("count" : Str) : Key), V.int 0)])) := upd_same
    generalize hH5 : upd H4 wd (.dK (mergeK [] [((Sum.inr ("count" : Str) : Key), V.int 0)])) = H5 at s5 hw5 ⊢
    clear s1 s2 hp1 hl1
    -- its trails
    refine ⟨13, rfl, by decide, by decide, fun D hD => ?_⟩
    refine lc_range (lo := 0) (n := (13 : Int).toNat) (fun i H' => ∃ ds : List Addr, ds.length = i ∧ H' D = some (.lst (ds.map V.ref)) ∧ ds.Nodup ∧ (∀ (j : Nat) (d : Addr), ds[j]? = some d → (∃ v, H' d = some (.lst [v]) ∧ Dt H' v (lastD (ms0.tr.getD j []))) ∧ H5 d = none ∧ d ≠ D) ∧ Same H5 H')
      ⟨[], rfl, upd_same, List.nodup_nil, fun j d hd => by simp at hd, same_new hD⟩ ?_ ?_
    · rintro i H' hi ⟨ds, hdl, hDl, hnd, hall, sm⟩
      have hi13 : i < 13 := hi
      have M' := (M3.same s5).same sm
      have e0 : (0 : Int) + (i : Int) = (i : Int) := by omega
      refine ⟨rfl, ?_⟩
      refine ⟨_, rfl, y, m.dx, _, rfl, sm _ _ (s5 _ _ hmp), mf_no (by decide +kernel), _, rfl, m, ms0, 0, i, by rw [e0, em]; rfl, M', wf0.mono (Nat.zero_le _), Nat.zero_le _, hi13, fun v dv => ?_⟩
      refine ⟨le_line (by simp), fun d hd => ?_⟩
      have s1 : Same H' (upd H' d (.lst [v])) := same_new hd
      have hmem : ∀ b, b ∈ ds → H' b ≠ none := fun b hb e => by
        obtain ⟨j, hj⟩ := List.getElem?_of_mem hb
        obtain ⟨⟨v', h1, _⟩, _⟩ := hall j b hj
        rw [h1] at e; cases e
      have nd : d ∉ ds := fun z => hmem d z hd
      have nD : D ≠ d := ne_of_none hDl hd
      refine ⟨ds.map V.ref, by rw [upd_ne nD]; exact hDl, lt_line (by rw [List.length_map, hdl]; omega), ds ++ [d], by rw [List.length_append, hdl]; rfl, ?_, ?_, ?_, ?_⟩
      · rw [upd_same, List.map_append]; rfl
      · rw [List.nodup_append]
        refine ⟨hnd, by simp, fun a ha b hb => ?_⟩
        have eb : b = d := by simpa using hb
        subst eb
        intro e; subst e; exact nd ha
      · intro j b hb
        have tp2 : Tups H' (upd (upd H' d (.lst [v])) D (.lst (ds.map V.ref ++ [.ref d]))) := (Tups.of_same s1).trans (Tups.upd_of fun ys e => by
          rw [upd_ne nD, hDl] at e; cases e)
        by_cases hj : j < ds.length
        · rw [List.getElem?_append_left hj] at hb
          obtain ⟨⟨v', h1, d1⟩, h2, h3⟩ := hall j b hb
          refine ⟨⟨v', ?_, d1.to tp2⟩, h2, h3⟩
          rw [upd_ne h3]; exact s1 _ _ h1
        · have hlt : j < (ds ++ [d]).length := (List.getElem?_eq_some_iff.mp hb).1
          rw [List.length_append, List.length_singleton] at hlt
          have ej : j = ds.length := by omega
          subst ej
          rw [List.getElem?_append_right (Nat.le_refl _), Nat.sub_self] at hb
          have eb : d = b := Option.some.inj hb
          subst eb
          refine ⟨⟨v, by rw [upd_ne nD.symm, upd_same], ?_⟩, sm.free hd, nD.symm⟩
          rw [hdl]
          exact dv.to tp2
      · intro b o e
        have e' := sm b o e
        rw [upd_ne, upd_ne (ne_of_none e' hd)]
        · exact e'
        · intro z; subst z; rw [hD] at e; cases e
    · rintro H6 ⟨ds, hdl, hDl, hnd, hall, sm⟩
      have hdl : ds.length = 13 := hdl
      refine ⟨_, rfl, wd, _, rfl, DPut.k (k := Sum.inr "trails") (sm _ _ hw5) len_merge, ?_⟩
      have hD3 : H3 D = none := s5.free hD
      have s6 : Same H3 (upd H6 wd (.dK (putK (mergeK [] [((Sum.inr ("count" : Str) : Key), V.int 0)]) (Sum.inr "trails") (.ref D)))) := fun b o e => by
        rw [upd_ne (ne_of_none e hw3)]; exact sm _ _ (s5 _ _ e)
      have nDw : D ≠ wd := fun e => by rw [e, hw5] at hD; cases hD
      have at6 : ∀ b o, b ≠ wd → H6 b = some o → (upd H6 wd (.dK (putK (mergeK [] [((Sum.inr ("count" : Str) : Key), V.int 0)]) (Sum.inr "trails") (.ref D)))) b = some o := fun b o hb e => by rw [upd_ne hb]; exact e
      have tp6 : Tups H6 (upd H6 wd (.dK (putK (mergeK [] [((Sum.inr ("count" : Str) : Key), V.int 0)]) (Sum.inr "trails") (.ref D)))) := Tups.upd_of fun ys e => by rw [sm _ _ hw5] at e; cases e
      have hw6 : (upd H6 wd (.dK (putK (mergeK [] [((Sum.inr ("count" : Str) : Key), V.int 0)]) (Sum.inr "trails") (.ref D)))) wd = some (.dK (putK (mergeK [] [((Sum.inr ("count" : Str) : Key), V.int 0)]) (Sum.inr "trails") (.ref D))) := upd_same
      have hD6 := at6 D _ nDw hDl
      have hall6 : ∀ (j : Nat) (d : Addr), ds[j]? = some d → (∃ v, (upd H6 wd (.dK (putK (mergeK [] [((Sum.inr ("count" : Str) : Key), V.int 0)]) (Sum.inr "trails") (.ref D)))) d = some (.lst [v]) ∧ Dt (upd H6 wd (.dK (putK (mergeK [] [((Sum.inr ("count" : Str) : Key), V.int 0)]) (Sum.inr "trails") (.ref D)))) v (lastD (ms0.tr.getD j []))) ∧ H3 d = none ∧ d ≠ D ∧ d ≠ wd := fun j d hj => by
        obtain ⟨⟨v, h1, d1⟩, h2, h3⟩ := hall j d hj
        have h4 : d ≠ wd := fun e => by rw [e, hw5] at h2; cases h2
        exact ⟨⟨v, at6 d _ h4 h1, d1.to tp6⟩, s5.free h2, h3, h4⟩
      generalize hH7 : upd H6 wd (.dK (putK (mergeK [] [((Sum.inr ("count" : Str) : Key), V.int 0)]) (Sum.inr "trails") (.ref D))) = H7 at s6 hw6 hD6 hall6 ⊢
      clear hall hDl sm at6 tp6 hw5 s5
      -- its notes
      intro d0 h0 d1 h1
      refine ⟨le_line (by simp), fun q hq => ?_⟩
      have t1 : Same H7 (upd H7 d0 (.dK [])) := same_new h0
      have t2 : Same (upd H7 d0 (.dK [])) (upd (upd H7 d0 (.dK [])) d1 (.dK [])) := same_new h1
      have t3 : Same (upd (upd H7 d0 (.dK [])) d1 (.dK [])) (upd (upd (upd H7 d0 (.dK [])) d1 (.dK [])) q (.lst [.ref d0, .ref d1])) := same_new hq
      have N : New2 H7 q d0 d1 (upd (upd (upd H7 d0 (.dK [])) d1 (.dK [])) q (.lst [.ref d0, .ref d1])) :=
        ⟨(t1.trans t2).trans t3, (t1.trans t2).free hq, h0, t1.free h1, ne_of_none upd_same h1, ne_of_none (t2 _ _ upd_same) hq, ne_of_none upd_same hq, upd_same, t3 _ _ (t2 _ _ upd_same), t3 _ _ upd_same⟩
      generalize hH8 : upd (upd (upd H7 d0 (.dK [])) d1 (.dK [])) q (.lst [.ref d0, .ref d1]) = H8 at N ⊢
      clear t1 t2 t3
      refine ⟨_, rfl, wd, _, rfl, DPut.k (k := Sum.inr "notes") (N.sm _ _ hw6) len_put2, ?_⟩
      rw [wk_made]
      have s9 : Same H3 (upd H8 wd (.dK (wk 0 D q))) := fun b o e => by
        rw [upd_ne (ne_of_none e hw3)]; exact N.sm _ _ (s6 _ _ e)
      have at9 : ∀ b o, b ≠ wd → H8 b = some o → (upd H8 wd (.dK (wk 0 D q))) b = some o := fun b o hb e => by rw [upd_ne hb]; exact e
      have tp9 : Tups H7 (upd H8 wd (.dK (wk 0 D q))) := (Tups.of_same N.sm).trans (Tups.upd_of fun ys e => by rw [N.sm _ _ hw6] at e; cases e)
      have nq : q ≠ wd := (ne_of_none hw6 N.fq).symm
      have nd0 : d0 ≠ wd := (ne_of_none hw6 N.f0).symm
      have nd1 : d1 ≠ wd := (ne_of_none hw6 N.f1).symm
      have nqD : q ≠ D := (ne_of_none hD6 N.fq).symm
      have nd0D : d0 ≠ D := (ne_of_none hD6 N.f0).symm
      have nd1D : d1 ≠ D := (ne_of_none hD6 N.f1).symm
      have nds : ∀ b, H7 b = none → b ∉ ds := fun b e z => by
        obtain ⟨j, hj⟩ := List.getElem?_of_mem z
        obtain ⟨⟨v, h1, _⟩, _⟩ := hall6 j b hj
        rw [h1] at e; cases e
      have hDds : D ∉ ds := fun z => by
        obtain ⟨j, hj⟩ := List.getElem?_of_mem z
        exact (hall6 j D hj).2.2.1 rfl
      have hwds : wd ∉ ds := fun z => by
        obtain ⟨j, hj⟩ := List.getElem?_of_mem z
        exact (hall6 j wd hj).2.2.2 rfl
      have ndC : (D :: q :: (ds ++ [d0, d1])).Nodup := by
        simp only [List.nodup_cons, List.mem_cons, List.mem_append, List.not_mem_nil, or_false, not_or]
        refine ⟨⟨nqD.symm, hDds, nd0D.symm, nd1D.symm⟩, ⟨nds q N.fq, N.n0.symm, N.n1.symm⟩, ?_⟩
        rw [List.nodup_append]
        refine ⟨hnd, by simp [N.ne], fun a ha b hb e => ?_⟩
        subst e
        have hb' : a = d0 ∨ a = d1 := by simpa using hb
        rcases hb' with e | e
        · subst e; exact nds _ N.f0 ha
        · subst e; exact nds _ N.f1 ha
      have L9 : LawAt (upd H8 wd (.dK (wk 0 D q))) ⟨wd, ⟨D, q, ds, [d0, d1]⟩⟩ ms0 0 := by
        refine ⟨?_, upd_same, ⟨ndC, at9 D _ nDw (N.sm _ _ hD6), at9 q _ nq N.hq, hdl, rfl, fun i a ha => ?_, fun i a ha => ?_⟩⟩
        · show (wd :: D :: q :: (ds ++ [d0, d1])).Nodup
          refine List.nodup_cons.mpr ⟨?_, ndC⟩
          simp only [List.mem_cons, List.mem_append, List.not_mem_nil, or_false, not_or]
          exact ⟨nDw.symm, nq.symm, hwds, nd0.symm, nd1.symm⟩
        · have ha' : ds[i]? = some a := ha
          obtain ⟨⟨v, h1, dv⟩, _, _, h4⟩ := hall6 i a ha'
          have hi : i < 13 := by rw [← hdl]; exact (List.getElem?_eq_some_iff.mp ha').1
          obtain ⟨d, ed⟩ := ms0_one hi
          refine ⟨[v], at9 a _ h4 (N.sm _ _ h1), ?_⟩
          rw [ed]
          rw [ed] at dv
          exact DtAll.one (dv.to tp9)
        · have ha' : [d0, d1][i]? = some a := ha
          match i, ha' with
          | 0, e => cases e; exact at9 d0 (.dK (kv [])) nd0 N.h0
          | 1, e => cases e; exact at9 d1 (.dK (kv [])) nd1 N.h1
          | j + 2, e => cases e
      have fresh3 : ∀ b, b ∈ (⟨wd, ⟨D, q, ds, [d0, d1]⟩⟩ : LA).fp → H3 b = none := fun b hb => by
        have hb' : b ∈ wd :: D :: q :: (ds ++ [d0, d1]) := hb
        simp only [List.mem_cons, List.mem_append, List.not_mem_nil, or_false] at hb'
        rcases hb' with e | e | e | e | e | e
        · rw [e]; exact hw3
        · rw [e]; exact hD3
        · rw [e]; exact s6.free N.fq
        · obtain ⟨j, hj⟩ := List.getElem?_of_mem e
          exact (hall6 j b hj).2.1
        · rw [e]; exact s6.free N.f0
        · rw [e]; exact s6.free N.f1
      have M9 := M3.same s9
      have dj9 : ∀ b, b ∈ m.fp → b ∉ (⟨wd, ⟨D, q, ds, [d0, d1]⟩⟩ : LA).fp := fun b hb z => M3.fresh (fresh3 b z) hb
      have ht9 := s9 _ _ ht3
      have hta : tp ∉ (⟨wd, ⟨D, q, ds, [d0, d1]⟩⟩ : LA).fp := fun z => by
        have := fresh3 tp z
        rw [ht3] at this; cases this
      generalize hH9 : upd H8 wd (.dK (wk 0 D q)) = H9 at L9 M9 ht9 ⊢
      clear s9 at9 tp9 hall6 hD6 hw6 s6 N fresh3
      -- the turns
      refine ⟨le_line (by simp), fun lq hlq => ?_⟩
      have s10 : Same H9 (upd H9 lq (.lst [.int 30, .int 90])) := same_new hlq
      have hl10 : (upd H9 lq (.lst [.int 30, .int 90])) lq = some (.lst [.int 30, .int 90]) := upd_same
      have M10 := M9.same s10
      have L10 := L9.same s10
      have ht10 := s10 _ _ ht9
      generalize hH10 : upd H9 lq (.lst [.int 30, .int 90]) = H10 at s10 hl10 M10 L10 ht10 ⊢
      refine ⟨_, rfl, tp, ts, 0, rfl, ht10, fun z0 => ?_⟩
      obtain ⟨j0, ej0, hj0⟩ := mod_nat (n := z0) (m := 2) (by decide)
      have ej0 : z0 % 2 = (j0 : Int) := ej0
      obtain ⟨r, hr30, hr90⟩ : ∃ r : Nat, ([.int 30, .int 90] : List V)[j0]? = some (.int (r : Int)) ∧ r ≤ 90 := by
        match j0, hj0 with
        | 0, _ => exact ⟨30, rfl, by decide⟩
        | 1, _ => exact ⟨90, rfl, by decide⟩
        | u + 2, h => omega
      refine ⟨_, _, rfl, rfl, (by show (0 : Int) < 2; decide), lq, _, _, .int (r : Int), rfl, rfl, SqL.of hl10, (by rw [ej0]; exact atI_nat hr30), ?_⟩
      have hlt : (ts.map V.int).length ≤ 4000 := by rw [List.length_map]; exact hts
      refine ⟨_, rfl, tp, _, rfl, .inl (SqL.of ht10), _, _, rfl, rfl, _, _, rfl, rfl, ⟨by decide, by decide⟩, _, _, rfl, _, _, rfl, ?_⟩
      have hB : ∀ u v : Int, v ≤ 90 → (if u < v then u else v) ≤ 90 := fun u v h => by split <;> omega
      have hC : ∀ u v : Int, 0 ≤ v → 0 ≤ u → 0 ≤ (if u < v then u else v) := fun u v h h' => by split <;> omega
      have hE : ∀ u : Int, 0 ≤ (if u > 0 then u else 0) := fun u => by split <;> omega
      generalize hg : (if (if ((((ts.map V.int).length : Nat) : Int) - 1) / 3 > 0 then ((((ts.map V.int).length : Nat) : Int) - 1) / 3 else 0) < (r : Int) then (if ((((ts.map V.int).length : Nat) : Int) - 1) / 3 > 0 then ((((ts.map V.int).length : Nat) : Int) - 1) / 3 else 0) else (r : Int)) = N
      have hN0 : 0 ≤ N := by rw [← hg]; exact hC _ _ (by omega) (hE _)
      have hN9 : N ≤ 90 := by rw [← hg]; exact hB _ _ (by omega)
      refine ⟨N, rfl, by omega, by omega, ?_⟩
      clear hB hC hE hg
      refine for_range (lo := 0) (n := N.toNat) (fun i σ H' => ∃ (v : Option V) (m' : MA) (a' : LA) (s' : MS) (n : Nat), σ = [some (.ref sc), some (.ref tp), some (.ref y), some (.ref wd), v, none] ∧ m'.p = y ∧ a'.w = wd ∧ Both T.CM T.CL H' m' a' s' n n ∧ WF s' n ∧ n ≤ i ∧ H' tp = some (.lst (ts.map V.int)) ∧ tp ∉ m'.fp ∧ tp ∉ a'.fp)
        ⟨none, m, _, ms0, 0, rfl, em, rfl, ⟨M10, L10, dj9⟩, wf0, Nat.le_refl _, ht10, htm, hta⟩ ?_ ?_
      · rintro i σ H' hi ⟨v, m', a', s', n, rfl, em', ea', B, W, hn, htp', htm', hta'⟩
        have hi90 : i < 90 := by omega
        subst em'
        subst ea'
        refine ⟨_, rfl, _, rfl, ?_⟩
        have h1 : ∀ z : Nat, 3 * (0 + (i : Int)) + (z : Int) = ((3 * i + z : Nat) : Int) := fun z => by omega
        have e1000 : WF s' 1000 := W.mono (by omega)
        refine ⟨_, rfl, _, rfl, _, _, rfl, rfl, .inl ⟨by decide, by omega⟩, _, _, rfl, rfl, tp, ts, 3 * i + 1, (by rw [← h1 1]; rfl), htp', fun z1 => ?_⟩
        refine ⟨_, rfl, _, rfl, _, _, rfl, rfl, .inl ⟨by decide, by omega⟩, _, _, rfl, rfl, tp, ts, 3 * i + 2, (by rw [← h1 2]; rfl), htp', fun z2 => ?_⟩
        refine ⟨_, rfl, _, rfl, _, _, rfl, rfl, .inl ⟨by decide, by omega⟩, _, _, rfl, rfl, tp, ts, 3 * i + 3, (by rw [← h1 3]; rfl), htp', fun z3 => ?_⟩
        refine ⟨m', a', s', n, z1, z2, z3, rfl, B, W, by omega, fun H2' m2 a2 s2 n2 e2 e2' B2 W2 hn2 S2 => ?_⟩
        refine ⟨true, rfl, iteF ?_⟩
        have S2o := S2.out htp' (fun z => (List.mem_append.mp z).elim htm' hta')
        refine ⟨_, rfl, _, rfl, m2, a2, s2, n2, (by rw [e2, e2']; rfl), B2.M, B2.L, W2.mono (by omega), fun H3' s3 => ?_⟩
        refine ⟨true, rfl, iteF ?_⟩
        exact ⟨_, m2, a2, s2, n2, rfl, e2, e2', ⟨B2.M.same s3, B2.L.same s3, B2.dj⟩, W2, by omega, s3 _ _ S2o.1, fun z => S2o.2 (List.mem_append.mpr (.inl z)), fun z => S2o.2 (List.mem_append.mpr (.inr z))⟩
      · rintro σ H' ⟨v, m', a', s', n, rfl, em', ea', B, W, hn, htp', htm', hta'⟩
        subst em'
        subst ea'
        refine ⟨_, rfl, m'.p, m'.dx, _, rfl, B.M.hp, mf_no (by decide +kernel), m', s', n, rfl, B.M, fun rs p hrs hp => ?_⟩
        have hs := same_new (o := .lst rs) hp
        have L' := B.L.same hs
        refine ⟨p, rs, rfl, .inl (SqL.of upd_same), _, rfl, _, _, rfl, L'.gc, ?_⟩
        rw [hrs]
        refine ⟨rfl, ?_⟩
        rw [decide_eq_true rfl]
        exact kk _
end
end DK

/-! What the top has written, the head. Printed by mk_T.py. -/
namespace DK
open PySem L2
section
variable {K : PySem.W.Frag} {f : Addr} {fd : FuncData}
theorem b_within (F : Fun K "is_within" "is_within" sWithin f fd) : Binds K fd ["value", "low", "high"] [] := F.binds fun _ _ _ _ _ _ us hl => match us, hl with | [_, _, _], _ => rfl
theorem b_lInit (F : Fun K "__init__" "Layout.__init__" sLInit f fd) : Binds K fd ["self", "threads", "words", "records"] [] := F.binds fun _ _ _ _ _ _ us hl => match us, hl with | [_, _, _, _], _ => rfl
theorem b_epoch (F : Fun K "epoch" "Layout.epoch" sEpoch f fd) : Binds K fd ["self"] [] := F.binds fun _ _ _ _ _ _ us hl => match us, hl with | [_], _ => rfl
theorem b_callSlot (F : Fun K "call_slot" "Layout.call_slot" sCallSlot f fd) : Binds K fd ["self", "thread"] [] := F.binds fun _ _ _ _ _ _ us hl => match us, hl with | [_, _], _ => rfl
theorem b_word (F : Fun K "word" "Layout.word" sWord f fd) : Binds K fd ["self", "index"] [] := F.binds fun _ _ _ _ _ _ us hl => match us, hl with | [_, _], _ => rfl
theorem b_record (F : Fun K "record" "Layout.record" sRecord f fd) : Binds K fd ["self", "index"] [] := F.binds fun _ _ _ _ _ _ us hl => match us, hl with | [_, _], _ => rfl
theorem b_cells (F : Fun K "cells" "Layout.cells" sCells f fd) : Binds K fd ["self"] [] := F.binds fun _ _ _ _ _ _ us hl => match us, hl with | [_], _ => rfl
theorem b_isLasting (F : Fun K "is_lasting" "Layout.is_lasting" sIsLasting f fd) : Binds K fd ["self", "cell"] [] := F.binds fun _ _ _ _ _ _ us hl => match us, hl with | [_, _], _ => rfl
theorem b_mInit (F : Fun K "__init__" "Memory.__init__" sMInit f fd) : Binds K fd ["self", "layout"] [] := F.binds fun _ _ _ _ _ _ us hl => match us, hl with | [_, _], _ => rfl
theorem b_noNotes (F : Fun K "no_notes" "Memory.no_notes" sNoNotes f fd) : Binds K fd ["self"] [] := F.binds fun _ _ _ _ _ _ us hl => match us, hl with | [_], _ => rfl
theorem b_checkCell (F : Fun K "check_cell" "Memory.check_cell" sCheckCell f fd) : Binds K fd ["self", "cell"] [] := F.binds fun _ _ _ _ _ _ us hl => match us, hl with | [_, _], _ => rfl
theorem b_checkLasting (F : Fun K "check_lasting" "Memory.check_lasting" sCheckLasting f fd) : Binds K fd ["self", "cell"] [] := F.binds fun _ _ _ _ _ _ us hl => match us, hl with | [_, _], _ => rfl
theorem b_checkRequest (F : Fun K "check_request" "Memory.check_request" sCheckRequest f fd) : Binds K fd ["self", "thread", "request"] [] := F.binds fun _ _ _ _ _ _ us hl => match us, hl with | [_, _, _], _ => rfl
theorem b_access (F : Fun K "access" "Memory.access" sAccess f fd) : Binds K fd ["self", "thread", "request"] [] := F.binds fun _ _ _ _ _ _ us hl => match us, hl with | [_, _, _], _ => rfl
theorem b_result (F : Fun K "result" "Memory.result" sResult f fd) : Binds K fd ["self", "thread", "request"] [] := F.binds fun _ _ _ _ _ _ us hl => match us, hl with | [_, _, _], _ => rfl
theorem b_give (F : Fun K "give" "Memory.give" sGive f fd) : Binds K fd ["self", "cell", "value"] [] := F.binds fun _ _ _ _ _ _ us hl => match us, hl with | [_, _, _], _ => rfl
theorem b_fence (F : Fun K "fence" "Memory.fence" sFence f fd) : Binds K fd ["self", "thread"] [] := F.binds fun _ _ _ _ _ _ us hl => match us, hl with | [_, _], _ => rfl
theorem b_shorten (F : Fun K "shorten" "Memory.shorten" sShorten f fd) : Binds K fd ["self", "cell", "steps"] [] := F.binds fun _ _ _ _ _ _ us hl => match us, hl with | [_, _, _], _ => rfl
theorem b_peek (F : Fun K "peek" "Memory.peek" sPeek f fd) : Binds K fd ["self", "cell"] [] := F.binds fun _ _ _ _ _ _ us hl => match us, hl with | [_, _], _ => rfl
theorem b_lasting (F : Fun K "lasting" "Memory.lasting" sLasting f fd) : Binds K fd ["self", "cell"] [] := F.binds fun _ _ _ _ _ _ us hl => match us, hl with | [_, _], _ => rfl
theorem b_trail (F : Fun K "trail" "Memory.trail" sTrail f fd) : Binds K fd ["self", "cell"] [] := F.binds fun _ _ _ _ _ _ us hl => match us, hl with | [_, _], _ => rfl
theorem b_drift (F : Fun K "drift" "Memory.drift" sDrift f fd) : Binds K fd ["self", "cell", "steps"] [] := F.binds fun _ _ _ _ _ _ us hl => match us, hl with | [_, _, _], _ => rfl
theorem b_cut (F : Fun K "cut" "Memory.cut" sCut f fd) : Binds K fd ["self", "choices"] [] := F.binds fun _ _ _ _ _ _ us hl => match us, hl with | [_, _], _ => rfl
theorem b_log (F : Fun K "log" "Memory.log" sLog f fd) : Binds K fd ["self"] [] := F.binds fun _ _ _ _ _ _ us hl => match us, hl with | [_], _ => rfl
theorem b_tape (F : Fun K "_law_tape" "_law_tape" sTape f fd) : Binds K fd ["_law_script"] [] := F.binds fun _ _ _ _ _ _ us hl => match us, hl with | [_], _ => rfl
theorem b_at_ (F : Fun K "_law_at" "_law_at" sAt f fd) : Binds K fd ["_law_tape_here", "_law_k"] [] := F.binds fun _ _ _ _ _ _ us hl => match us, hl with | [_, _], _ => rfl
theorem b_value (F : Fun K "_law_value" "_law_value" sValue f fd) : Binds K fd ["_law_number"] [] := F.binds fun _ _ _ _ _ _ us hl => match us, hl with | [_], _ => rfl
theorem b_do_ (F : Fun K "_law_do" "_law_do" sDo f fd) : Binds K fd ["_law_memory", "_law_act", "_law_first", "_law_second"] [] := F.binds fun _ _ _ _ _ _ us hl => match us, hl with | [_, _, _, _], _ => rfl
theorem b_wrong (F : Fun K "_law_wrong" "_law_wrong" sWrong f fd) : Binds K fd ["_law_memory", "_law_number"] [] := F.binds fun _ _ _ _ _ _ us hl => match us, hl with | [_, _], _ => rfl
theorem b_lGive (F : Fun K "_law_give" "_law_give" sLGive f fd) : Binds K fd ["_law_w", "_law_cell", "_law_value_here"] [] := F.binds fun _ _ _ _ _ _ us hl => match us, hl with | [_, _, _], _ => rfl
theorem b_lShorten (F : Fun K "_law_shorten" "_law_shorten" sLShorten f fd) : Binds K fd ["_law_w", "_law_cell", "_law_steps"] [] := F.binds fun _ _ _ _ _ _ us hl => match us, hl with | [_, _, _], _ => rfl
theorem b_due (F : Fun K "_law_due" "_law_due" sDue f fd) : Binds K fd ["_law_w", "_law_thread", "_law_request_here"] [] := F.binds fun _ _ _ _ _ _ us hl => match us, hl with | [_, _, _], _ => rfl
theorem b_lCut (F : Fun K "_law_cut" "_law_cut" sLCut f fd) : Binds K fd ["_law_w", "_law_choices"] [] := F.binds fun _ _ _ _ _ _ us hl => match us, hl with | [_, _], _ => rfl
theorem b_request (F : Fun K "_law_request" "_law_request" sRequest f fd) : Binds K fd ["_law_w", "_law_number", "_law_pick", "_law_other"] [] := F.binds fun _ _ _ _ _ _ us hl => match us, hl with | [_, _, _, _], _ => rfl
theorem b_same (F : Fun K "_law_same" "_law_same" sSame f fd) : Binds K fd ["_law_told", "_law_due_here"] [] := F.binds fun _ _ _ _ _ _ us hl => match us, hl with | [_, _], _ => rfl
theorem b_looks (F : Fun K "_law_looks" "_law_looks" sLooks f fd) : Binds K fd ["_law_memory", "_law_w"] [] := F.binds fun _ _ _ _ _ _ us hl => match us, hl with | [_, _], _ => rfl
theorem b_step (F : Fun K "_law_step" "_law_step" sStep f fd) : Binds K fd ["_law_memory", "_law_w", "_law_number", "_law_pick", "_law_other"] [] := F.binds fun _ _ _ _ _ _ us hl => match us, hl with | [_, _, _, _, _], _ => rfl
theorem kit_self {t : Value} (h : (t == t) = true) : PySem.W.kitOne K t t = some true := by
  show (if (t == t) = true then some true else PySem.W.kitCls K t t) = some true
  rw [if_pos h]
end
theorem all_mk {l : PySem.W.OpenLaw} {w : World} {K : PySem.W.Frag} {h : Heap} {mg : Str → Option Value} {fa CL CM NV LE LD f0 f1 f2 f3 f4 f5 f6 f7 f8 f9 f10 f11 f12 f13 f14 f15 f16 f17 f18 f19 f20 f21 f22 f23 f24 f25 f26 f27 f28 f29 f30 f31 f32 f33 f34 f35 f36 f37 : Addr} (X : K.In h) (G : h.Ns mainGlobals mg) (hfa : mg "law" = some (.ref fa))
    {es : List DictEntry} {n : Nat} {tc0 tc1 tc2 tc3 tl0 tl1 tl2 tl3 tl4 tl5 : Tok}
    {od0 od1 od2 od3 od4 od5 od6 od7 od8 od9 od10 od11 od12 od13 od14 od15 od16 od17 od18 od19 od20 od21 od22 od23 od24 od25 od26 od27 od28 od29 od30 od31 od32 od33 od34 od35 od36 od37 an0 an1 an2 an3 an4 an5 an6 an7 an8 an9 an10 an11 an12 an13 an14 an15 an16 an17 an18 an19 an20 an21 an22 an23 an24 an25 an26 an27 an28 an29 an30 an31 an32 an33 an34 an35 an36 an37 : Option Addr} {sl0 sl1 sl2 sl3 sl4 sl5 sl6 sl7 sl8 sl9 sl10 sl11 sl12 sl13 sl14 sl15 sl16 sl17 sl18 sl19 sl20 sl21 sl22 sl23 sl24 sl25 sl26 sl27 sl28 sl29 sl30 sl31 sl32 sl33 sl34 sl35 sl36 sl37 : Array (Option Value)} {oc0 oc1 oc2 oc3 oc4 oc5 oc6 oc7 oc8 oc9 oc10 oc11 oc12 oc13 oc14 oc15 oc16 oc17 oc18 oc19 oc20 oc21 oc22 oc23 oc24 oc25 oc26 oc27 oc28 oc29 oc30 oc31 oc32 oc33 oc34 oc35 oc36 oc37 kV0 kV1 kV2 kV3 kV4 kV5 kV6 kV7 kV8 kV9 kV10 kV11 kV12 kV13 kV14 kV15 kV16 kV17 kV18 kV19 kV20 kV21 kV22 kV23 kV24 kV25 kV26 kV27 kV28 kV29 kV30 kV31 kV32 kV33 kV34 kV35 kV36 kV37 dc0 dc1 dc2 dc3 dc4 dc5 dc6 dc7 dc8 dc9 dc10 dc11 dc12 dc13 dc14 dc15 dc16 dc17 dc18 dc19 dc20 dc21 dc22 dc23 dc24 dc25 dc26 dc27 dc28 dc29 dc30 dc31 dc32 dc33 dc34 dc35 dc36 dc37 pm0 pm1 pm2 pm3 pm4 pm5 pm6 pm7 pm8 pm9 pm10 pm11 pm12 pm13 pm14 pm15 pm16 pm17 pm18 pm19 pm20 pm21 pm22 pm23 pm24 pm25 pm26 pm27 pm28 pm29 pm30 pm31 pm32 pm33 pm34 pm35 pm36 pm37 cd0 cd1 cd2 cd3 cd4 cd5 cd6 cd7 cd8 cd9 cd10 cd11 cd12 cd13 cd14 cd15 cd16 cd17 cd18 cd19 cd20 cd21 cd22 cd23 cd24 cd25 cd26 cd27 cd28 cd29 cd30 cd31 cd32 cd33 cd34 cd35 cd36 cd37 ct0 ct1 ct2 ct3 ct4 ct5 ct6 ct7 ct8 ct9 ct10 ct11 ct12 ct13 ct14 ct15 ct16 ct17 ct18 ct19 ct20 ct21 ct22 ct23 ct24 ct25 ct26 ct27 ct28 ct29 ct30 ct31 ct32 ct33 ct34 ct35 ct36 ct37 : Value}
    (aCL : PySem.W.nsIn K mainGlobals "Layout" = some (some (.ref CL)))
    (aCM : PySem.W.nsIn K mainGlobals "Memory" = some (some (.ref CM)))
    (aNV : PySem.W.nsIn K mainGlobals "NotValid" = some (some (.ref NV)))
    (aLE : PySem.W.nsIn K mainGlobals "LineError" = some (some (.ref LE)))
    (aLD : PySem.W.nsIn K mainGlobals "LENGTHS" = some (some (.ref LD)))
    (pgCL : PySem.W.plainGet K CL Str.empty = true)
    (hdCL : PySem.W.hasDictIn K CL = true)
    (poCL : PySem.W.plainOver K CL = true)
    (saCL : PySem.W.findIn K (.ref CL) "__setattr__" = some (some (.builtin "object.__setattr__")))
    (mkCL : PySem.W.makesIn K CL = true)
    (kcCL : PySem.W.keepIn K (.ref CL) = true)
    (pgCM : PySem.W.plainGet K CM Str.empty = true)
    (hdCM : PySem.W.hasDictIn K CM = true)
    (poCM : PySem.W.plainOver K CM = true)
    (saCM : PySem.W.findIn K (.ref CM) "__setattr__" = some (some (.builtin "object.__setattr__")))
    (mkCM : PySem.W.makesIn K CM = true)
    (kcCM : PySem.W.keepIn K (.ref CM) = true)
    (nThreads : PySem.W.findIn K (.ref CL) "threads" = some none)
    (nWords : PySem.W.findIn K (.ref CL) "words" = some none)
    (nRecords : PySem.W.findIn K (.ref CL) "records" = some none)
    (nLayout : PySem.W.findIn K (.ref CM) "layout" = some none)
    (nCount : PySem.W.findIn K (.ref CM) "count" = some none)
    (nRows : PySem.W.findIn K (.ref CM) "rows" = some none)
    (nTrails : PySem.W.findIn K (.ref CM) "trails" = some none)
    (nNotes : PySem.W.findIn K (.ref CM) "notes" = some none)
    (xEx : PySem.W.excIn K NV [.type "ValueError", .type "Exception", .type "BaseException", .type "object"] "ValueError.__new__" = true)
    (xKp : PySem.W.keepIn K (.ref NV) = true)
    (xSb : PySem.W.subIn K (.ref NV) (.type "BaseException") = some true)
    (xTy : PySem.W.typeIn K (.ref NV) = some (.type "type"))
    (lSb : PySem.W.subIn K (.ref LE) (.type "BaseException") = some true)
    (lHd : PySem.W.hasDictIn K LE = true)
    (lTy : PySem.W.typeIn K (.ref LE) = some (.type "type"))
    (nSb : PySem.W.subIn K (.ref NV) (.ref LE) = some true)
    (cg : PySem.W.findIn K (.ref NV) "__getattribute__" = some (some (.builtin "BaseException.__getattribute__")))
    (ck : PySem.W.findIn K (.ref NV) "__getattr__" = some none)
    (cd : PySem.W.hasDictIn K NV = true)
    (ca : PySem.W.findIn K (.ref NV) "__class__" = some (some (.builtin "object.__class__")))
    (cn : PySem.W.specialIn K (.builtin "object.__class__") "__get__" = some (some (.builtin "getset_descriptor.__get__")))
    (ct : PySem.W.takesIn K (.builtin "object.__class__") = some true)
    (cm : PySem.W.mroIn K NV (.type "object") = some true)
    (zmThreads : PySem.W.nsIn K mainGlobals "MOST_THREADS" = some (some (.int 3 tc0)))
    (zmWords : PySem.W.nsIn K mainGlobals "MOST_WORDS" = some (some (.int 4 tc1)))
    (zlRecords : PySem.W.nsIn K mainGlobals "LEAST_RECORDS" = some (some (.int 4 tc2)))
    (zmRecords : PySem.W.nsIn K mainGlobals "MOST_RECORDS" = some (some (.int 200 tc3)))
    (lLD : K.lookup LD = some ⟨.type "dict", none, .dict es.toArray n, #[]⟩)
    (kLD : PySem.W.KeysLit w.params es)
    (sLD : (LD == sysModules) = false)
    (l_read : PySem.W.nsIn K LD "read" = some (some (.int 2 tl0)))
    (l_write : PySem.W.nsIn K LD "write" = some (some (.int 3 tl1)))
    (l_swap : PySem.W.nsIn K LD "swap" = some (some (.int 4 tl2)))
    (l_decide : PySem.W.nsIn K LD "decide" = some (some (.int 3 tl3)))
    (l_flush : PySem.W.nsIn K LD "flush" = some (some (.int 2 tl4)))
    (l_fence : PySem.W.nsIn K LD "fence" = some (some (.int 1 tl5)))
    (l_end : PySem.W.nsIn K LD "end" = some none)
    (b_isinstance : PySem.W.nsIn K mainGlobals "isinstance" = some none)
    (b_int : PySem.W.nsIn K mainGlobals "int" = some none)
    (b_bool : PySem.W.nsIn K mainGlobals "bool" = some none)
    (b_tuple : PySem.W.nsIn K mainGlobals "tuple" = some none)
    (b_list : PySem.W.nsIn K mainGlobals "list" = some none)
    (b_dict : PySem.W.nsIn K mainGlobals "dict" = some none)
    (b_len : PySem.W.nsIn K mainGlobals "len" = some none)
    (b_range : PySem.W.nsIn K mainGlobals "range" = some none)
    (b_sorted : PySem.W.nsIn K mainGlobals "sorted" = some none)
    (b_min : PySem.W.nsIn K mainGlobals "min" = some none)
    (b_max : PySem.W.nsIn K mainGlobals "max" = some none)
    (b_abs : PySem.W.nsIn K mainGlobals "abs" = some none)
    (a0 : PySem.W.nsIn K mainGlobals "is_within" = some (some (.ref f0)))
    (l0 : K.lookup f0 = some ⟨oc0, od0, .func (PySem.W.fnOf "is_within" "is_within" (defArgs sWithin) (defBody sWithin) (defScope sWithin) .none kV0 dc0 pm0 an0 cd0 ct0), sl0⟩)
    (c0 : PySem.W.codeIn K cd0 "is_within" = true)
    (k0 : PySem.W.keepIn K (.ref f0) = true)
    (a1 : PySem.W.findIn K (.ref CL) "__init__" = some (some (.ref f1)))
    (i1 : PySem.W.isFn K (.ref f1) = true)
    (l1 : K.lookup f1 = some ⟨oc1, od1, .func (PySem.W.fnOf "__init__" "Layout.__init__" (defArgs sLInit) (defBody sLInit) (defScope sLInit) .none kV1 dc1 pm1 an1 cd1 ct1), sl1⟩)
    (c1 : PySem.W.codeIn K cd1 "Layout.__init__" = true)
    (k1 : PySem.W.keepIn K (.ref f1) = true)
    (a2 : PySem.W.findIn K (.ref CL) "epoch" = some (some (.ref f2)))
    (i2 : PySem.W.isFn K (.ref f2) = true)
    (l2 : K.lookup f2 = some ⟨oc2, od2, .func (PySem.W.fnOf "epoch" "Layout.epoch" (defArgs sEpoch) (defBody sEpoch) (defScope sEpoch) .none kV2 dc2 pm2 an2 cd2 ct2), sl2⟩)
    (c2 : PySem.W.codeIn K cd2 "Layout.epoch" = true)
    (k2 : PySem.W.keepIn K (.ref f2) = true)
    (a3 : PySem.W.findIn K (.ref CL) "call_slot" = some (some (.ref f3)))
    (i3 : PySem.W.isFn K (.ref f3) = true)
    (l3 : K.lookup f3 = some ⟨oc3, od3, .func (PySem.W.fnOf "call_slot" "Layout.call_slot" (defArgs sCallSlot) (defBody sCallSlot) (defScope sCallSlot) .none kV3 dc3 pm3 an3 cd3 ct3), sl3⟩)
    (c3 : PySem.W.codeIn K cd3 "Layout.call_slot" = true)
    (k3 : PySem.W.keepIn K (.ref f3) = true)
    (a4 : PySem.W.findIn K (.ref CL) "word" = some (some (.ref f4)))
    (i4 : PySem.W.isFn K (.ref f4) = true)
    (l4 : K.lookup f4 = some ⟨oc4, od4, .func (PySem.W.fnOf "word" "Layout.word" (defArgs sWord) (defBody sWord) (defScope sWord) .none kV4 dc4 pm4 an4 cd4 ct4), sl4⟩)
    (c4 : PySem.W.codeIn K cd4 "Layout.word" = true)
    (k4 : PySem.W.keepIn K (.ref f4) = true)
    (a5 : PySem.W.findIn K (.ref CL) "record" = some (some (.ref f5)))
    (i5 : PySem.W.isFn K (.ref f5) = true)
    (l5 : K.lookup f5 = some ⟨oc5, od5, .func (PySem.W.fnOf "record" "Layout.record" (defArgs sRecord) (defBody sRecord) (defScope sRecord) .none kV5 dc5 pm5 an5 cd5 ct5), sl5⟩)
    (c5 : PySem.W.codeIn K cd5 "Layout.record" = true)
    (k5 : PySem.W.keepIn K (.ref f5) = true)
    (a6 : PySem.W.findIn K (.ref CL) "cells" = some (some (.ref f6)))
    (i6 : PySem.W.isFn K (.ref f6) = true)
    (l6 : K.lookup f6 = some ⟨oc6, od6, .func (PySem.W.fnOf "cells" "Layout.cells" (defArgs sCells) (defBody sCells) (defScope sCells) .none kV6 dc6 pm6 an6 cd6 ct6), sl6⟩)
    (c6 : PySem.W.codeIn K cd6 "Layout.cells" = true)
    (k6 : PySem.W.keepIn K (.ref f6) = true)
    (a7 : PySem.W.findIn K (.ref CL) "is_lasting" = some (some (.ref f7)))
    (i7 : PySem.W.isFn K (.ref f7) = true)
    (l7 : K.lookup f7 = some ⟨oc7, od7, .func (PySem.W.fnOf "is_lasting" "Layout.is_lasting" (defArgs sIsLasting) (defBody sIsLasting) (defScope sIsLasting) .none kV7 dc7 pm7 an7 cd7 ct7), sl7⟩)
    (c7 : PySem.W.codeIn K cd7 "Layout.is_lasting" = true)
    (k7 : PySem.W.keepIn K (.ref f7) = true)
    (a8 : PySem.W.findIn K (.ref CM) "__init__" = some (some (.ref f8)))
    (i8 : PySem.W.isFn K (.ref f8) = true)
    (l8 : K.lookup f8 = some ⟨oc8, od8, .func (PySem.W.fnOf "__init__" "Memory.__init__" (defArgs sMInit) (defBody sMInit) (defScope sMInit) .none kV8 dc8 pm8 an8 cd8 ct8), sl8⟩)
    (c8 : PySem.W.codeIn K cd8 "Memory.__init__" = true)
    (k8 : PySem.W.keepIn K (.ref f8) = true)
    (a9 : PySem.W.findIn K (.ref CM) "no_notes" = some (some (.ref f9)))
    (i9 : PySem.W.isFn K (.ref f9) = true)
    (l9 : K.lookup f9 = some ⟨oc9, od9, .func (PySem.W.fnOf "no_notes" "Memory.no_notes" (defArgs sNoNotes) (defBody sNoNotes) (defScope sNoNotes) .none kV9 dc9 pm9 an9 cd9 ct9), sl9⟩)
    (c9 : PySem.W.codeIn K cd9 "Memory.no_notes" = true)
    (k9 : PySem.W.keepIn K (.ref f9) = true)
    (a10 : PySem.W.findIn K (.ref CM) "check_cell" = some (some (.ref f10)))
    (i10 : PySem.W.isFn K (.ref f10) = true)
    (l10 : K.lookup f10 = some ⟨oc10, od10, .func (PySem.W.fnOf "check_cell" "Memory.check_cell" (defArgs sCheckCell) (defBody sCheckCell) (defScope sCheckCell) .none kV10 dc10 pm10 an10 cd10 ct10), sl10⟩)
    (c10 : PySem.W.codeIn K cd10 "Memory.check_cell" = true)
    (k10 : PySem.W.keepIn K (.ref f10) = true)
    (a11 : PySem.W.findIn K (.ref CM) "check_lasting" = some (some (.ref f11)))
    (i11 : PySem.W.isFn K (.ref f11) = true)
    (l11 : K.lookup f11 = some ⟨oc11, od11, .func (PySem.W.fnOf "check_lasting" "Memory.check_lasting" (defArgs sCheckLasting) (defBody sCheckLasting) (defScope sCheckLasting) .none kV11 dc11 pm11 an11 cd11 ct11), sl11⟩)
    (c11 : PySem.W.codeIn K cd11 "Memory.check_lasting" = true)
    (k11 : PySem.W.keepIn K (.ref f11) = true)
    (a12 : PySem.W.findIn K (.ref CM) "check_request" = some (some (.ref f12)))
    (i12 : PySem.W.isFn K (.ref f12) = true)
    (l12 : K.lookup f12 = some ⟨oc12, od12, .func (PySem.W.fnOf "check_request" "Memory.check_request" (defArgs sCheckRequest) (defBody sCheckRequest) (defScope sCheckRequest) .none kV12 dc12 pm12 an12 cd12 ct12), sl12⟩)
    (c12 : PySem.W.codeIn K cd12 "Memory.check_request" = true)
    (k12 : PySem.W.keepIn K (.ref f12) = true)
    (a13 : PySem.W.findIn K (.ref CM) "access" = some (some (.ref f13)))
    (i13 : PySem.W.isFn K (.ref f13) = true)
    (l13 : K.lookup f13 = some ⟨oc13, od13, .func (PySem.W.fnOf "access" "Memory.access" (defArgs sAccess) (defBody sAccess) (defScope sAccess) .none kV13 dc13 pm13 an13 cd13 ct13), sl13⟩)
    (c13 : PySem.W.codeIn K cd13 "Memory.access" = true)
    (k13 : PySem.W.keepIn K (.ref f13) = true)
    (a14 : PySem.W.findIn K (.ref CM) "result" = some (some (.ref f14)))
    (i14 : PySem.W.isFn K (.ref f14) = true)
    (l14 : K.lookup f14 = some ⟨oc14, od14, .func (PySem.W.fnOf "result" "Memory.result" (defArgs sResult) (defBody sResult) (defScope sResult) .none kV14 dc14 pm14 an14 cd14 ct14), sl14⟩)
    (c14 : PySem.W.codeIn K cd14 "Memory.result" = true)
    (k14 : PySem.W.keepIn K (.ref f14) = true)
    (a15 : PySem.W.findIn K (.ref CM) "give" = some (some (.ref f15)))
    (i15 : PySem.W.isFn K (.ref f15) = true)
    (l15 : K.lookup f15 = some ⟨oc15, od15, .func (PySem.W.fnOf "give" "Memory.give" (defArgs sGive) (defBody sGive) (defScope sGive) .none kV15 dc15 pm15 an15 cd15 ct15), sl15⟩)
    (c15 : PySem.W.codeIn K cd15 "Memory.give" = true)
    (k15 : PySem.W.keepIn K (.ref f15) = true)
    (a16 : PySem.W.findIn K (.ref CM) "fence" = some (some (.ref f16)))
    (i16 : PySem.W.isFn K (.ref f16) = true)
    (l16 : K.lookup f16 = some ⟨oc16, od16, .func (PySem.W.fnOf "fence" "Memory.fence" (defArgs sFence) (defBody sFence) (defScope sFence) .none kV16 dc16 pm16 an16 cd16 ct16), sl16⟩)
    (c16 : PySem.W.codeIn K cd16 "Memory.fence" = true)
    (k16 : PySem.W.keepIn K (.ref f16) = true)
    (a17 : PySem.W.findIn K (.ref CM) "shorten" = some (some (.ref f17)))
    (i17 : PySem.W.isFn K (.ref f17) = true)
    (l17 : K.lookup f17 = some ⟨oc17, od17, .func (PySem.W.fnOf "shorten" "Memory.shorten" (defArgs sShorten) (defBody sShorten) (defScope sShorten) .none kV17 dc17 pm17 an17 cd17 ct17), sl17⟩)
    (c17 : PySem.W.codeIn K cd17 "Memory.shorten" = true)
    (k17 : PySem.W.keepIn K (.ref f17) = true)
    (a18 : PySem.W.findIn K (.ref CM) "peek" = some (some (.ref f18)))
    (i18 : PySem.W.isFn K (.ref f18) = true)
    (l18 : K.lookup f18 = some ⟨oc18, od18, .func (PySem.W.fnOf "peek" "Memory.peek" (defArgs sPeek) (defBody sPeek) (defScope sPeek) .none kV18 dc18 pm18 an18 cd18 ct18), sl18⟩)
    (c18 : PySem.W.codeIn K cd18 "Memory.peek" = true)
    (k18 : PySem.W.keepIn K (.ref f18) = true)
    (a19 : PySem.W.findIn K (.ref CM) "lasting" = some (some (.ref f19)))
    (i19 : PySem.W.isFn K (.ref f19) = true)
    (l19 : K.lookup f19 = some ⟨oc19, od19, .func (PySem.W.fnOf "lasting" "Memory.lasting" (defArgs sLasting) (defBody sLasting) (defScope sLasting) .none kV19 dc19 pm19 an19 cd19 ct19), sl19⟩)
    (c19 : PySem.W.codeIn K cd19 "Memory.lasting" = true)
    (k19 : PySem.W.keepIn K (.ref f19) = true)
    (a20 : PySem.W.findIn K (.ref CM) "trail" = some (some (.ref f20)))
    (i20 : PySem.W.isFn K (.ref f20) = true)
    (l20 : K.lookup f20 = some ⟨oc20, od20, .func (PySem.W.fnOf "trail" "Memory.trail" (defArgs sTrail) (defBody sTrail) (defScope sTrail) .none kV20 dc20 pm20 an20 cd20 ct20), sl20⟩)
    (c20 : PySem.W.codeIn K cd20 "Memory.trail" = true)
    (k20 : PySem.W.keepIn K (.ref f20) = true)
    (a21 : PySem.W.findIn K (.ref CM) "drift" = some (some (.ref f21)))
    (i21 : PySem.W.isFn K (.ref f21) = true)
    (l21 : K.lookup f21 = some ⟨oc21, od21, .func (PySem.W.fnOf "drift" "Memory.drift" (defArgs sDrift) (defBody sDrift) (defScope sDrift) .none kV21 dc21 pm21 an21 cd21 ct21), sl21⟩)
    (c21 : PySem.W.codeIn K cd21 "Memory.drift" = true)
    (k21 : PySem.W.keepIn K (.ref f21) = true)
    (a22 : PySem.W.findIn K (.ref CM) "cut" = some (some (.ref f22)))
    (i22 : PySem.W.isFn K (.ref f22) = true)
    (l22 : K.lookup f22 = some ⟨oc22, od22, .func (PySem.W.fnOf "cut" "Memory.cut" (defArgs sCut) (defBody sCut) (defScope sCut) .none kV22 dc22 pm22 an22 cd22 ct22), sl22⟩)
    (c22 : PySem.W.codeIn K cd22 "Memory.cut" = true)
    (k22 : PySem.W.keepIn K (.ref f22) = true)
    (a23 : PySem.W.findIn K (.ref CM) "log" = some (some (.ref f23)))
    (i23 : PySem.W.isFn K (.ref f23) = true)
    (l23 : K.lookup f23 = some ⟨oc23, od23, .func (PySem.W.fnOf "log" "Memory.log" (defArgs sLog) (defBody sLog) (defScope sLog) .none kV23 dc23 pm23 an23 cd23 ct23), sl23⟩)
    (c23 : PySem.W.codeIn K cd23 "Memory.log" = true)
    (k23 : PySem.W.keepIn K (.ref f23) = true)
    (a24 : PySem.W.nsIn K mainGlobals "_law_tape" = some (some (.ref f24)))
    (l24 : K.lookup f24 = some ⟨oc24, od24, .func (PySem.W.fnOf "_law_tape" "_law_tape" (defArgs sTape) (defBody sTape) (defScope sTape) .none kV24 dc24 pm24 an24 cd24 ct24), sl24⟩)
    (c24 : PySem.W.codeIn K cd24 "_law_tape" = true)
    (k24 : PySem.W.keepIn K (.ref f24) = true)
    (a25 : PySem.W.nsIn K mainGlobals "_law_at" = some (some (.ref f25)))
    (l25 : K.lookup f25 = some ⟨oc25, od25, .func (PySem.W.fnOf "_law_at" "_law_at" (defArgs sAt) (defBody sAt) (defScope sAt) .none kV25 dc25 pm25 an25 cd25 ct25), sl25⟩)
    (c25 : PySem.W.codeIn K cd25 "_law_at" = true)
    (k25 : PySem.W.keepIn K (.ref f25) = true)
    (a26 : PySem.W.nsIn K mainGlobals "_law_value" = some (some (.ref f26)))
    (l26 : K.lookup f26 = some ⟨oc26, od26, .func (PySem.W.fnOf "_law_value" "_law_value" (defArgs sValue) (defBody sValue) (defScope sValue) .none kV26 dc26 pm26 an26 cd26 ct26), sl26⟩)
    (c26 : PySem.W.codeIn K cd26 "_law_value" = true)
    (k26 : PySem.W.keepIn K (.ref f26) = true)
    (a27 : PySem.W.nsIn K mainGlobals "_law_do" = some (some (.ref f27)))
    (l27 : K.lookup f27 = some ⟨oc27, od27, .func (PySem.W.fnOf "_law_do" "_law_do" (defArgs sDo) (defBody sDo) (defScope sDo) .none kV27 dc27 pm27 an27 cd27 ct27), sl27⟩)
    (c27 : PySem.W.codeIn K cd27 "_law_do" = true)
    (k27 : PySem.W.keepIn K (.ref f27) = true)
    (a28 : PySem.W.nsIn K mainGlobals "_law_wrong" = some (some (.ref f28)))
    (l28 : K.lookup f28 = some ⟨oc28, od28, .func (PySem.W.fnOf "_law_wrong" "_law_wrong" (defArgs sWrong) (defBody sWrong) (defScope sWrong) .none kV28 dc28 pm28 an28 cd28 ct28), sl28⟩)
    (c28 : PySem.W.codeIn K cd28 "_law_wrong" = true)
    (k28 : PySem.W.keepIn K (.ref f28) = true)
    (a29 : PySem.W.nsIn K mainGlobals "_law_give" = some (some (.ref f29)))
    (l29 : K.lookup f29 = some ⟨oc29, od29, .func (PySem.W.fnOf "_law_give" "_law_give" (defArgs sLGive) (defBody sLGive) (defScope sLGive) .none kV29 dc29 pm29 an29 cd29 ct29), sl29⟩)
    (c29 : PySem.W.codeIn K cd29 "_law_give" = true)
    (k29 : PySem.W.keepIn K (.ref f29) = true)
    (a30 : PySem.W.nsIn K mainGlobals "_law_shorten" = some (some (.ref f30)))
    (l30 : K.lookup f30 = some ⟨oc30, od30, .func (PySem.W.fnOf "_law_shorten" "_law_shorten" (defArgs sLShorten) (defBody sLShorten) (defScope sLShorten) .none kV30 dc30 pm30 an30 cd30 ct30), sl30⟩)
    (c30 : PySem.W.codeIn K cd30 "_law_shorten" = true)
    (k30 : PySem.W.keepIn K (.ref f30) = true)
    (a31 : PySem.W.nsIn K mainGlobals "_law_due" = some (some (.ref f31)))
    (l31 : K.lookup f31 = some ⟨oc31, od31, .func (PySem.W.fnOf "_law_due" "_law_due" (defArgs sDue) (defBody sDue) (defScope sDue) .none kV31 dc31 pm31 an31 cd31 ct31), sl31⟩)
    (c31 : PySem.W.codeIn K cd31 "_law_due" = true)
    (k31 : PySem.W.keepIn K (.ref f31) = true)
    (a32 : PySem.W.nsIn K mainGlobals "_law_cut" = some (some (.ref f32)))
    (l32 : K.lookup f32 = some ⟨oc32, od32, .func (PySem.W.fnOf "_law_cut" "_law_cut" (defArgs sLCut) (defBody sLCut) (defScope sLCut) .none kV32 dc32 pm32 an32 cd32 ct32), sl32⟩)
    (c32 : PySem.W.codeIn K cd32 "_law_cut" = true)
    (k32 : PySem.W.keepIn K (.ref f32) = true)
    (a33 : PySem.W.nsIn K mainGlobals "_law_request" = some (some (.ref f33)))
    (l33 : K.lookup f33 = some ⟨oc33, od33, .func (PySem.W.fnOf "_law_request" "_law_request" (defArgs sRequest) (defBody sRequest) (defScope sRequest) .none kV33 dc33 pm33 an33 cd33 ct33), sl33⟩)
    (c33 : PySem.W.codeIn K cd33 "_law_request" = true)
    (k33 : PySem.W.keepIn K (.ref f33) = true)
    (a34 : PySem.W.nsIn K mainGlobals "_law_same" = some (some (.ref f34)))
    (l34 : K.lookup f34 = some ⟨oc34, od34, .func (PySem.W.fnOf "_law_same" "_law_same" (defArgs sSame) (defBody sSame) (defScope sSame) .none kV34 dc34 pm34 an34 cd34 ct34), sl34⟩)
    (c34 : PySem.W.codeIn K cd34 "_law_same" = true)
    (k34 : PySem.W.keepIn K (.ref f34) = true)
    (a35 : PySem.W.nsIn K mainGlobals "_law_looks" = some (some (.ref f35)))
    (l35 : K.lookup f35 = some ⟨oc35, od35, .func (PySem.W.fnOf "_law_looks" "_law_looks" (defArgs sLooks) (defBody sLooks) (defScope sLooks) .none kV35 dc35 pm35 an35 cd35 ct35), sl35⟩)
    (c35 : PySem.W.codeIn K cd35 "_law_looks" = true)
    (k35 : PySem.W.keepIn K (.ref f35) = true)
    (a36 : PySem.W.nsIn K mainGlobals "_law_step" = some (some (.ref f36)))
    (l36 : K.lookup f36 = some ⟨oc36, od36, .func (PySem.W.fnOf "_law_step" "_law_step" (defArgs sStep) (defBody sStep) (defScope sStep) .none kV36 dc36 pm36 an36 cd36 ct36), sl36⟩)
    (c36 : PySem.W.codeIn K cd36 "_law_step" = true)
    (k36 : PySem.W.keepIn K (.ref f36) = true)
    (a37 : PySem.W.nsIn K mainGlobals "law" = some (some (.ref f37)))
    (l37 : K.lookup f37 = some ⟨oc37, od37, .func (PySem.W.fnOf "law" "law" (defArgs sLaw) (defBody sLaw) (defScope sLaw) .none kV37 dc37 pm37 an37 cd37 ct37), sl37⟩)
    (c37 : PySem.W.codeIn K cd37 "law" = true)
    (k37 : PySem.W.keepIn K (.ref f37) = true) :
    ∃ fd : FuncData, (∀ (s : Shared) (v : Value), BindsTo s fd ⟨[v], []⟩ [("_law_script", v)]) ∧ ∀ base : Heap, K.In base → base.Ns mainGlobals mg → FnOk l.prog w K mg base CX0 10 fa fd ["_law_script"] (spLaw K) := by
  have e := hfa.symm.trans (PySem.W.mg_of X G a37)
  cases e
  have F0 := fun_mk (st := sWithin) l0 c0 k0
  have F1 := fun_mk (st := sLInit) l1 c1 k1
  have F2 := fun_mk (st := sEpoch) l2 c2 k2
  have F3 := fun_mk (st := sCallSlot) l3 c3 k3
  have F4 := fun_mk (st := sWord) l4 c4 k4
  have F5 := fun_mk (st := sRecord) l5 c5 k5
  have F6 := fun_mk (st := sCells) l6 c6 k6
  have F7 := fun_mk (st := sIsLasting) l7 c7 k7
  have F8 := fun_mk (st := sMInit) l8 c8 k8
  have F9 := fun_mk (st := sNoNotes) l9 c9 k9
  have F10 := fun_mk (st := sCheckCell) l10 c10 k10
  have F11 := fun_mk (st := sCheckLasting) l11 c11 k11
  have F12 := fun_mk (st := sCheckRequest) l12 c12 k12
  have F13 := fun_mk (st := sAccess) l13 c13 k13
  have F14 := fun_mk (st := sResult) l14 c14 k14
  have F15 := fun_mk (st := sGive) l15 c15 k15
  have F16 := fun_mk (st := sFence) l16 c16 k16
  have F17 := fun_mk (st := sShorten) l17 c17 k17
  have F18 := fun_mk (st := sPeek) l18 c18 k18
  have F19 := fun_mk (st := sLasting) l19 c19 k19
  have F20 := fun_mk (st := sTrail) l20 c20 k20
  have F21 := fun_mk (st := sDrift) l21 c21 k21
  have F22 := fun_mk (st := sCut) l22 c22 k22
  have F23 := fun_mk (st := sLog) l23 c23 k23
  have F24 := fun_mk (st := sTape) l24 c24 k24
  have F25 := fun_mk (st := sAt) l25 c25 k25
  have F26 := fun_mk (st := sValue) l26 c26 k26
  have F27 := fun_mk (st := sDo) l27 c27 k27
  have F28 := fun_mk (st := sWrong) l28 c28 k28
  have F29 := fun_mk (st := sLGive) l29 c29 k29
  have F30 := fun_mk (st := sLShorten) l30 c30 k30
  have F31 := fun_mk (st := sDue) l31 c31 k31
  have F32 := fun_mk (st := sLCut) l32 c32 k32
  have F33 := fun_mk (st := sRequest) l33 c33 k33
  have F34 := fun_mk (st := sSame) l34 c34 k34
  have F35 := fun_mk (st := sLooks) l35 c35 k35
  have F36 := fun_mk (st := sStep) l36 c36 k36
  have T : Txt w K mg := {
    CL := CL, CM := CM, NV := NV, LE := LE, LD := LD
    clL := ⟨pgCL, hdCL, poCL, saCL⟩, clM := ⟨pgCM, hdCM, poCM, saCM⟩, mkL := mkCL, mkM := mkCM, kcL := kcCL, kcM := kcCM
    gL := PySem.W.mg_of X G aCL
    gM := PySem.W.mg_of X G aCM
    gNV := PySem.W.mg_of X G aNV
    gLE := PySem.W.mg_of X G aLE
    gLD := PySem.W.mg_of X G aLD
    nThreads := nThreads
    nWords := nWords
    nRecords := nRecords
    nLayout := nLayout
    nCount := nCount
    nRows := nRows
    nTrails := nTrails
    nNotes := nNotes
    nv := ⟨xEx, xKp, xSb, xTy⟩
    exm := PySem.W.exm_ref lSb lHd lTy nSb
    kitNV := kit_self (beq_self_eq_true (Value.ref NV))
    exC := ⟨cg, ck, xSb, cd, ca, cn, ct, cm⟩
    mThreads := ⟨tc0, PySem.W.mg_of X G zmThreads⟩
    mWords := ⟨tc1, PySem.W.mg_of X G zmWords⟩
    lRecords := ⟨tc2, PySem.W.mg_of X G zlRecords⟩
    mRecords := ⟨tc3, PySem.W.mg_of X G zmRecords⟩
    lens := ⟨es.toArray, n, lLD, kLD, sLD⟩
    lenAt := fun x v hx => by
      cases hx with
      | read => exact ⟨_, l_read, tl0, rfl⟩
      | write => exact ⟨_, l_write, tl1, rfl⟩
      | swap => exact ⟨_, l_swap, tl2, rfl⟩
      | dec => exact ⟨_, l_decide, tl3, rfl⟩
      | flush => exact ⟨_, l_flush, tl4, rfl⟩
      | fence => exact ⟨_, l_fence, tl5, rfl⟩
      | end_ => exact ⟨_, l_end, rfl⟩
    bIsinstance := PySem.W.mg_none_of X G b_isinstance
    bInt := PySem.W.mg_none_of X G b_int
    bBool := PySem.W.mg_none_of X G b_bool
    bTuple := PySem.W.mg_none_of X G b_tuple
    bList := PySem.W.mg_none_of X G b_list
    bDict := PySem.W.mg_none_of X G b_dict
    bLen := PySem.W.mg_none_of X G b_len
    bRange := PySem.W.mg_none_of X G b_range
    bSorted := PySem.W.mg_none_of X G b_sorted
    bMin := PySem.W.mg_none_of X G b_min
    bMax := PySem.W.mg_none_of X G b_max
    bAbs := PySem.W.mg_none_of X G b_abs
    within := ⟨f0, _, F0, b_within F0, PySem.W.mg_of X G a0⟩
    lInit := ⟨f1, _, F1, b_lInit F1, ⟨a1, i1, k1⟩⟩
    epoch := ⟨f2, _, F2, b_epoch F2, ⟨a2, i2, k2⟩⟩
    callSlot := ⟨f3, _, F3, b_callSlot F3, ⟨a3, i3, k3⟩⟩
    word := ⟨f4, _, F4, b_word F4, ⟨a4, i4, k4⟩⟩
    record := ⟨f5, _, F5, b_record F5, ⟨a5, i5, k5⟩⟩
    cells := ⟨f6, _, F6, b_cells F6, ⟨a6, i6, k6⟩⟩
    isLasting := ⟨f7, _, F7, b_isLasting F7, ⟨a7, i7, k7⟩⟩
    mInit := ⟨f8, _, F8, b_mInit F8, ⟨a8, i8, k8⟩⟩
    noNotes := ⟨f9, _, F9, b_noNotes F9, ⟨a9, i9, k9⟩⟩
    checkCell := ⟨f10, _, F10, b_checkCell F10, ⟨a10, i10, k10⟩⟩
    checkLasting := ⟨f11, _, F11, b_checkLasting F11, ⟨a11, i11, k11⟩⟩
    checkRequest := ⟨f12, _, F12, b_checkRequest F12, ⟨a12, i12, k12⟩⟩
    access := ⟨f13, _, F13, b_access F13, ⟨a13, i13, k13⟩⟩
    result := ⟨f14, _, F14, b_result F14, ⟨a14, i14, k14⟩⟩
    give := ⟨f15, _, F15, b_give F15, ⟨a15, i15, k15⟩⟩
    fence := ⟨f16, _, F16, b_fence F16, ⟨a16, i16, k16⟩⟩
    shorten := ⟨f17, _, F17, b_shorten F17, ⟨a17, i17, k17⟩⟩
    peek := ⟨f18, _, F18, b_peek F18, ⟨a18, i18, k18⟩⟩
    lasting := ⟨f19, _, F19, b_lasting F19, ⟨a19, i19, k19⟩⟩
    trail := ⟨f20, _, F20, b_trail F20, ⟨a20, i20, k20⟩⟩
    drift := ⟨f21, _, F21, b_drift F21, ⟨a21, i21, k21⟩⟩
    cut := ⟨f22, _, F22, b_cut F22, ⟨a22, i22, k22⟩⟩
    log := ⟨f23, _, F23, b_log F23, ⟨a23, i23, k23⟩⟩
    tape := ⟨f24, _, F24, b_tape F24, PySem.W.mg_of X G a24⟩
    at_ := ⟨f25, _, F25, b_at_ F25, PySem.W.mg_of X G a25⟩
    value := ⟨f26, _, F26, b_value F26, PySem.W.mg_of X G a26⟩
    do_ := ⟨f27, _, F27, b_do_ F27, PySem.W.mg_of X G a27⟩
    wrong := ⟨f28, _, F28, b_wrong F28, PySem.W.mg_of X G a28⟩
    lGive := ⟨f29, _, F29, b_lGive F29, PySem.W.mg_of X G a29⟩
    lShorten := ⟨f30, _, F30, b_lShorten F30, PySem.W.mg_of X G a30⟩
    due := ⟨f31, _, F31, b_due F31, PySem.W.mg_of X G a31⟩
    lCut := ⟨f32, _, F32, b_lCut F32, PySem.W.mg_of X G a32⟩
    request := ⟨f33, _, F33, b_request F33, PySem.W.mg_of X G a33⟩
    same := ⟨f34, _, F34, b_same F34, PySem.W.mg_of X G a34⟩
    looks := ⟨f35, _, F35, b_looks F35, PySem.W.mg_of X G a35⟩
    step := ⟨f36, _, F36, b_step F36, PySem.W.mg_of X G a36⟩ }
  exact ⟨PySem.W.fnOf "law" "law" (defArgs sLaw) (defBody sLaw) (defScope sLaw) .none kV37 dc37 pm37 an37 cd37 ct37, fun s v => .of_eq rfl, fun base _ _ => ok_law (fun_mk (st := sLaw) l37 c37 k37) T⟩
theorem walk {l : PySem.W.OpenLaw} {q : Program} {loose : List Str} {XP : (Str → Option Value) → Heap → Prop} {YP : World → Heap → Prop} {d : DefRec} {K : Params → PySem.W.Frag} (hn : l.most = some 63) (hdf : d.params.defaults = [])
    (hY : ∀ (w : World) (h : Heap), YP w h → (K w.params).In h)
    (F : ∀ (w : World) (mg : Str → Option Value) (fa : Addr) (h : Heap), (K w.params).In h → h.Ns mainGlobals mg → mg d.name = some (.ref fa) →
      ∃ fd : FuncData, (∀ (s : Shared) (u : Value), BindsTo s fd ⟨[u], []⟩ [("_law_script", u)]) ∧ ∀ base : Heap, (K w.params).In base → base.Ns mainGlobals mg → FnOk l.prog w (K w.params) mg base CX0 10 fa fd ["_law_script"] (spLaw (K w.params))) :
    PySem.W.WalkO q loose XP YP l.row.toRowW d [] (fun f vs => PySem.call f vs) :=
  L2.walk_of (n := 63) (k := 10) (x := "_law_script") (CX := fun _ => CX0) (sp := fun w => spLaw (K w.params)) hn (by decide) hdf ⟨rfl, by decide, by decide⟩ hY F (fun _ _ a ns hl _ hS => ⟨a, ns, rfl, hS, hl, fun _ => rfl⟩) fun _ _ _ _ _ z => z
end DK

/-! The end. Printed by mk_T.py. -/
open PySem PySem.W PyProof.Rows
set_option maxRecDepth 100000 in
set_option maxHeartbeats 0 in
theorem dk_top : PySem.Challenge.rw_driftkept_k02_whole_memory_that_lasts.Holds := by
  w_on; o_law; k_head; (case hw => w_witness2)
  k_fill
  refine DK.walk (l := PySem.Challenge.rw_driftkept_k02_whole_memory_that_lasts) rfl rfl (fun w h Y => PySem.W.kIn_of Y) ?F
  case F =>
    intro w mg fa h KX G hmg
    refine' DK.all_mk KX G hmg ?aCL ?aCM ?aNV ?aLE ?aLD ?pgCL ?hdCL ?poCL ?saCL ?mkCL ?kcCL ?pgCM ?hdCM ?poCM ?saCM ?mkCM ?kcCM ?nThreads ?nWords ?nRecords ?nLayout ?nCount ?nRows ?nTrails ?nNotes ?xEx ?xKp ?xSb ?xTy ?lSb ?lHd ?lTy ?nSb ?cg ?ck ?cd ?ca ?cn ?ct ?cm ?zmThreads ?zmWords ?zlRecords ?zmRecords ?lLD ?kLD ?sLD ?l_read ?l_write ?l_swap ?l_decide ?l_flush ?l_fence ?l_end ?b_isinstance ?b_int ?b_bool ?b_tuple ?b_list ?b_dict ?b_len ?b_range ?b_sorted ?b_min ?b_max ?b_abs ?a0 ?l0 ?c0 ?k0 ?a1 ?i1 ?l1 ?c1 ?k1 ?a2 ?i2 ?l2 ?c2 ?k2 ?a3 ?i3 ?l3 ?c3 ?k3 ?a4 ?i4 ?l4 ?c4 ?k4 ?a5 ?i5 ?l5 ?c5 ?k5 ?a6 ?i6 ?l6 ?c6 ?k6 ?a7 ?i7 ?l7 ?c7 ?k7 ?a8 ?i8 ?l8 ?c8 ?k8 ?a9 ?i9 ?l9 ?c9 ?k9 ?a10 ?i10 ?l10 ?c10 ?k10 ?a11 ?i11 ?l11 ?c11 ?k11 ?a12 ?i12 ?l12 ?c12 ?k12 ?a13 ?i13 ?l13 ?c13 ?k13 ?a14 ?i14 ?l14 ?c14 ?k14 ?a15 ?i15 ?l15 ?c15 ?k15 ?a16 ?i16 ?l16 ?c16 ?k16 ?a17 ?i17 ?l17 ?c17 ?k17 ?a18 ?i18 ?l18 ?c18 ?k18 ?a19 ?i19 ?l19 ?c19 ?k19 ?a20 ?i20 ?l20 ?c20 ?k20 ?a21 ?i21 ?l21 ?c21 ?k21 ?a22 ?i22 ?l22 ?c22 ?k22 ?a23 ?i23 ?l23 ?c23 ?k23 ?a24 ?l24 ?c24 ?k24 ?a25 ?l25 ?c25 ?k25 ?a26 ?l26 ?c26 ?k26 ?a27 ?l27 ?c27 ?k27 ?a28 ?l28 ?c28 ?k28 ?a29 ?l29 ?c29 ?k29 ?a30 ?l30 ?c30 ?k30 ?a31 ?l31 ?c31 ?k31 ?a32 ?l32 ?c32 ?k32 ?a33 ?l33 ?c33 ?k33 ?a34 ?l34 ?c34 ?k34 ?a35 ?l35 ?c35 ?k35 ?a36 ?l36 ?c36 ?k36 ?a37 ?l37 ?c37 ?k37
    (case aCL => k_is)
    (case aCM => k_is)
    (case aNV => k_is)
    (case aLE => k_is)
    (case aLD => k_is)
    (case pgCL => k_is)
    (case hdCL => k_is)
    (case poCL => k_is)
    (case saCL => k_is)
    (case mkCL => k_is)
    (case kcCL => k_is)
    (case pgCM => k_is)
    (case hdCM => k_is)
    (case poCM => k_is)
    (case saCM => k_is)
    (case mkCM => k_is)
    (case kcCM => k_is)
    (case nThreads => k_is)
    (case nWords => k_is)
    (case nRecords => k_is)
    (case nLayout => k_is)
    (case nCount => k_is)
    (case nRows => k_is)
    (case nTrails => k_is)
    (case nNotes => k_is)
    (case xEx => k_exc)
    (case xKp => k_is)
    (case xSb => k_is)
    (case xTy => k_is)
    (case lSb => k_is)
    (case lHd => k_is)
    (case lTy => k_is)
    (case nSb => k_is)
    (case cg => k_is)
    (case ck => k_is)
    (case cd => k_is)
    (case ca => k_is)
    (case cn => k_is)
    (case ct => k_is)
    (case cm => k_is)
    (case zmThreads => k_is)
    (case zmWords => k_is)
    (case zlRecords => k_is)
    (case zmRecords => k_is)
    (case lLD => k_is)
    (case kLD => exact ⟨⟨_, _, rfl, rfl⟩, ⟨_, _, rfl, rfl⟩, ⟨_, _, rfl, rfl⟩, ⟨_, _, rfl, rfl⟩, ⟨_, _, rfl, rfl⟩, ⟨_, _, rfl, rfl⟩, trivial⟩)
    (case sLD => decide)
    (case l_read => k_is)
    (case l_write => k_is)
    (case l_swap => k_is)
    (case l_decide => k_is)
    (case l_flush => k_is)
    (case l_fence => k_is)
    (case l_end => k_is)
    (case b_isinstance => k_is)
    (case b_int => k_is)
    (case b_bool => k_is)
    (case b_tuple => k_is)
    (case b_list => k_is)
    (case b_dict => k_is)
    (case b_len => k_is)
    (case b_range => k_is)
    (case b_sorted => k_is)
    (case b_min => k_is)
    (case b_max => k_is)
    (case b_abs => k_is)
    (case a0 => k_is)
    (case l0 => k_is)
    (case c0 => k_is)
    (case k0 => k_is)
    (case a1 => k_is)
    (case i1 => k_is)
    (case l1 => k_is)
    (case c1 => k_is)
    (case k1 => k_is)
    (case a2 => k_is)
    (case i2 => k_is)
    (case l2 => k_is)
    (case c2 => k_is)
    (case k2 => k_is)
    (case a3 => k_is)
    (case i3 => k_is)
    (case l3 => k_is)
    (case c3 => k_is)
    (case k3 => k_is)
    (case a4 => k_is)
    (case i4 => k_is)
    (case l4 => k_is)
    (case c4 => k_is)
    (case k4 => k_is)
    (case a5 => k_is)
    (case i5 => k_is)
    (case l5 => k_is)
    (case c5 => k_is)
    (case k5 => k_is)
    (case a6 => k_is)
    (case i6 => k_is)
    (case l6 => k_is)
    (case c6 => k_is)
    (case k6 => k_is)
    (case a7 => k_is)
    (case i7 => k_is)
    (case l7 => k_is)
    (case c7 => k_is)
    (case k7 => k_is)
    (case a8 => k_is)
    (case i8 => k_is)
    (case l8 => k_is)
    (case c8 => k_is)
    (case k8 => k_is)
    (case a9 => k_is)
    (case i9 => k_is)
    (case l9 => k_is)
    (case c9 => k_is)
    (case k9 => k_is)
    (case a10 => k_is)
    (case i10 => k_is)
    (case l10 => k_is)
    (case c10 => k_is)
    (case k10 => k_is)
    (case a11 => k_is)
    (case i11 => k_is)
    (case l11 => k_is)
    (case c11 => k_is)
    (case k11 => k_is)
    (case a12 => k_is)
    (case i12 => k_is)
    (case l12 => k_is)
    (case c12 => k_is)
    (case k12 => k_is)
    (case a13 => k_is)
    (case i13 => k_is)
    (case l13 => k_is)
    (case c13 => k_is)
    (case k13 => k_is)
    (case a14 => k_is)
    (case i14 => k_is)
    (case l14 => k_is)
    (case c14 => k_is)
    (case k14 => k_is)
    (case a15 => k_is)
    (case i15 => k_is)
    (case l15 => k_is)
    (case c15 => k_is)
    (case k15 => k_is)
    (case a16 => k_is)
    (case i16 => k_is)
    (case l16 => k_is)
    (case c16 => k_is)
    (case k16 => k_is)
    (case a17 => k_is)
    (case i17 => k_is)
    (case l17 => k_is)
    (case c17 => k_is)
    (case k17 => k_is)
    (case a18 => k_is)
    (case i18 => k_is)
    (case l18 => k_is)
    (case c18 => k_is)
    (case k18 => k_is)
    (case a19 => k_is)
    (case i19 => k_is)
    (case l19 => k_is)
    (case c19 => k_is)
    (case k19 => k_is)
    (case a20 => k_is)
    (case i20 => k_is)
    (case l20 => k_is)
    (case c20 => k_is)
    (case k20 => k_is)
    (case a21 => k_is)
    (case i21 => k_is)
    (case l21 => k_is)
    (case c21 => k_is)
    (case k21 => k_is)
    (case a22 => k_is)
    (case i22 => k_is)
    (case l22 => k_is)
    (case c22 => k_is)
    (case k22 => k_is)
    (case a23 => k_is)
    (case i23 => k_is)
    (case l23 => k_is)
    (case c23 => k_is)
    (case k23 => k_is)
    (case a24 => k_is)
    (case l24 => k_is)
    (case c24 => k_is)
    (case k24 => k_is)
    (case a25 => k_is)
    (case l25 => k_is)
    (case c25 => k_is)
    (case k25 => k_is)
    (case a26 => k_is)
    (case l26 => k_is)
    (case c26 => k_is)
    (case k26 => k_is)
    (case a27 => k_is)
    (case l27 => k_is)
    (case c27 => k_is)
    (case k27 => k_is)
    (case a28 => k_is)
    (case l28 => k_is)
    (case c28 => k_is)
    (case k28 => k_is)
    (case a29 => k_is)
    (case l29 => k_is)
    (case c29 => k_is)
    (case k29 => k_is)
    (case a30 => k_is)
    (case l30 => k_is)
    (case c30 => k_is)
    (case k30 => k_is)
    (case a31 => k_is)
    (case l31 => k_is)
    (case c31 => k_is)
    (case k31 => k_is)
    (case a32 => k_is)
    (case l32 => k_is)
    (case c32 => k_is)
    (case k32 => k_is)
    (case a33 => k_is)
    (case l33 => k_is)
    (case c33 => k_is)
    (case k33 => k_is)
    (case a34 => k_is)
    (case l34 => k_is)
    (case c34 => k_is)
    (case k34 => k_is)
    (case a35 => k_is)
    (case l35 => k_is)
    (case c35 => k_is)
    (case k35 => k_is)
    (case a36 => k_is)
    (case l36 => k_is)
    (case c36 => k_is)
    (case k36 => k_is)
    (case a37 => k_is)
    (case l37 => k_is)
    (case c37 => k_is)
    (case k37 => k_is)
theorem PySem.Challenge.cw_driftkept_k02_whole_memory_that_lasts_holds : PySem.Challenge.rw_driftkept_k02_whole_memory_that_lasts.Holds := by
  exact dk_top
