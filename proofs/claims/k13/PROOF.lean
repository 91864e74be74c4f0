import PyProof.Rows.All
import Wide.All
import OpenK.AllK
import Wide.FinOn
import HandS.ForMost
import HandS.ForExc
import HandS.Defaults
import HandS.ExcInit
import HandS.ExcField
import HandS.HeadHook1
import HandS.HeadHook2
import PySem.Challenge.RW_handshaker_k13_whole_blocks
import KE.KSuper
import HandS.More
import HandS.HotCalls
import HandS.MakeKwOnly
import HandS.Nested
import HandS.ExcInitHot
import HandS.Comp
import HandS.ExcOwn
import HandS.Dict
import KE.KEqNest
import PyProof.NeKinds
import HandS.ListEq
import HandS.DictComp
import HandS.DeepEq
import HandS.Small
import HandS.Style
import KE.KStateDown
import HandS.Head0
import HandS.Head1
import HandS.Head2
import HandS.HeadEnd
set_option Elab.async false
set_option linter.all false
set_option maxRecDepth 100000
set_option maxHeartbeats 4000000
/-! K13Pure: a block as data, and what running it comes to (no program in sight). -/
namespace K13
inductive Nm where | a | b | c
  deriving DecidableEq
inductive Lc where | x | y
  deriving DecidableEq
inductive Bk where | plus | minus | times | over | rest | less | atmost | same | and | or
  deriving DecidableEq
/-- an expression -/
inductive Ex where
  | num (n : Int) | loc (l : Lc) | cell (c : Nm) (i : Ex) | neg (a : Ex) | no (a : Ex) | bin (k : Bk) (a b : Ex)
def exD : Ex → Nat
  | .num _ => 0
  | .loc _ => 0
  | .cell _ i => exD i + 1
  | .neg a => exD a + 1
  | .no a => exD a + 1
  | .bin _ a b => max (exD a) (exD b) + 1
/-- the reason of a fault -/
inductive Wd where | range | zero | index | count
  deriving DecidableEq
/-- a block under way -/
structure Stt where
  x : Int
  y : Int
  reads : List (Int × Int)
  writes : List (Int × Int)
  later : List Int
abbrev Ok1 (n : Int) : Prop := -1000000000 ≤ n ∧ n ≤ 1000000000
inductive Rs where
  | ok (v : Int) (st : Stt) | er (r : Wd) (st : Stt)
def liftS (st : Stt) : Except Wd Int → Rs
  | .ok v => .ok v st
  | .error r => .er r st
def ckV (n : Int) : Except Wd Int := if -1000000000 ≤ n ∧ n ≤ 1000000000 then .ok n else .error .range
def ck (n : Int) (st : Stt) : Rs := liftS st (ckV n)
def firstOf : Nm → Int
  | .a => 0 | .b => 2 | .c => 3
def sizeOf : Nm → Int
  | .a => 2 | .b => 1 | .c => 3
def twoV (k : Bk) (v w : Int) : Except Wd Int := match k with
  | .plus => ckV (v + w)
  | .minus => ckV (v - w)
  | .times => ckV (v * w)
  | .over => if w = 0 then .error .zero else ckV (v.fdiv w)
  | .rest => if w = 0 then .error .zero else ckV (v - w * v.fdiv w)
  | .less => .ok (if v < w then 1 else 0)
  | .atmost => .ok (if v ≤ w then 1 else 0)
  | _ => .ok (if v = w then 1 else 0)
def two (k : Bk) (v w : Int) (st : Stt) : Rs := liftS st (twoV k v w)
def lookI (l : List (Int × Int)) (k : Int) : Option Int := (l.find? fun p => decide (p.1 = k)).map (·.2)
def putI (l : List (Int × Int)) (k z : Int) : List (Int × Int) :=
  if (l.any fun p => decide (p.1 = k)) = true then l.map (fun p => if p.1 = k then (p.1, z) else p) else l ++ [(k, z)]
def rdC (mem : List Int) (k : Int) (st : Stt) : Rs := match lookI st.writes k with
  | some z => .ok z st
  | none => .ok (mem.getD k.toNat 0) { st with reads := putI st.reads k (mem.getD k.toNat 0) }
def locV (st : Stt) : Lc → Int
  | .x => st.x | .y => st.y
def setL (l : Lc) (z : Int) (st : Stt) : Stt := match l with
  | .x => { st with x := z } | .y => { st with y := z }
def tf : Rs → Rs
  | .er r s => .er r s
  | .ok w s => .ok (if w = 0 then 0 else 1) s
def two2 (k : Bk) (v : Int) : Rs → Rs
  | .er r s => .er r s
  | .ok w s => two k v w s
/-- an operation of two parts behind its first part -/
def binB (k : Bk) (v : Int) (f : Stt → Rs) (s : Stt) : Rs := match k with
  | .and => if v = 0 then .ok 0 s else tf (f s)
  | .or => if v = 0 then tf (f s) else .ok 1 s
  | k => two2 k v (f s)
/-- what an expression comes to -/
def evE (mem : List Int) : Ex → Stt → Rs
  | .num n, st => ck n st
  | .loc l, st => .ok (locV st l) st
  | .cell c i, st => match evE mem i st with
    | .er r s1 => .er r s1
    | .ok v s1 => if 0 ≤ v ∧ v < sizeOf c then rdC mem (firstOf c + v) s1 else .er .index s1
  | .neg a, st => match evE mem a st with
    | .er r s1 => .er r s1
    | .ok v s1 => .ok (-v) s1
  | .no a, st => match evE mem a st with
    | .er r s1 => .er r s1
    | .ok v s1 => .ok (if v = 0 then 1 else 0) s1
  | .bin k a b, st => match evE mem a st with
    | .er r s1 => .er r s1
    | .ok v s1 => binB k v (evE mem b) s1
/-- a statement -/
inductive Sm where
  | set (l : Lc) (e : Ex) | put (c : Nm) (i e : Ex) | later (e : Ex) | retry | undo
  | ite (c : Ex) (a b : List Sm) | rep (c : Ex) (a : List Sm) | cho (a b : List Sm)
inductive Oc where
  | done | retry | undo | fault (r : Wd)
  deriving DecidableEq
def runL (f : Sm → Stt → Oc × Stt) : List Sm → Stt → Oc × Stt
  | [], st => (.done, st)
  | s :: r, st => match f s st with
    | (.done, s1) => runL f r s1
    | (.retry, s1) => (.retry, s1)
    | (.undo, s1) => (.undo, s1)
    | (.fault w, s1) => (.fault w, s1)
def runN (g : Stt → Oc × Stt) : Nat → Stt → Oc × Stt
  | 0, st => (.done, st)
  | n + 1, st => match g st with
    | (.done, s1) => runN g n s1
    | (.retry, s1) => (.retry, s1)
    | (.undo, s1) => (.undo, s1)
    | (.fault w, s1) => (.fault w, s1)
/-- what a statement comes to; the number: how deep lists may stand within -/
def runS (mem : List Int) : Nat → Sm → Stt → Oc × Stt
  | _, .set l e, st => match evE mem e st with
    | .er r s1 => (.fault r, s1)
    | .ok v s1 => (.done, setL l v s1)
  | _, .put c i e, st => match evE mem i st with
    | .er r s1 => (.fault r, s1)
    | .ok v s1 => match evE mem e s1 with
      | .er r s2 => (.fault r, s2)
      | .ok w s2 => if 0 ≤ v ∧ v < sizeOf c then (.done, { s2 with writes := putI s2.writes (firstOf c + v) w }) else (.fault .index, s2)
  | _, .later e, st => match evE mem e st with
    | .er r s1 => (.fault r, s1)
    | .ok v s1 => (.done, { s1 with later := s1.later ++ [v] })
  | _, .retry, st => (.retry, st)
  | _, .undo, st => (.undo, st)
  | n + 1, .ite c a b, st => match evE mem c st with
    | .er r s1 => (.fault r, s1)
    | .ok v s1 => if v = 0 then runL (runS mem n) b s1 else runL (runS mem n) a s1
  | n + 1, .rep c a, st => match evE mem c st with
    | .er r s1 => (.fault r, s1)
    | .ok v s1 => if 0 ≤ v ∧ v ≤ 20 then runN (runL (runS mem n) a) v.toNat s1 else (.fault .count, s1)
  | n + 1, .cho a b, st => match runL (runS mem n) a st with
    | (.done, s1) => (.done, s1)
    | (.undo, s1) => (.undo, s1)
    | (.fault w, s1) => (.fault w, s1)
    | (.retry, s1) => runL (runS mem n) b { st with reads := s1.reads }
  | 0, _, st => (.done, st)
/-- lists of at most three, at most so deep -/
def Wf : Nat → Sm → Prop
  | n + 1, .ite _ a b => (a.length ≤ 3 ∧ ∀ s ∈ a, Wf n s) ∧ b.length ≤ 3 ∧ ∀ s ∈ b, Wf n s
  | n + 1, .rep _ a => a.length ≤ 3 ∧ ∀ s ∈ a, Wf n s
  | n + 1, .cho a b => (a.length ≤ 3 ∧ ∀ s ∈ a, Wf n s) ∧ b.length ≤ 3 ∧ ∀ s ∈ b, Wf n s
  | 0, .ite _ _ _ => False
  | 0, .rep _ _ => False
  | 0, .cho _ _ => False
  | _, _ => True
def WfB (n : Nat) (b : List Sm) : Prop := b.length ≤ 3 ∧ ∀ s ∈ b, Wf n s
/-- how many things a statement may add -/
def cap : Nat → Nat
  | 0 => 1
  | n + 1 => 60 * cap n
theorem cap_pos : ∀ n, 1 ≤ cap n
  | 0 => Nat.le_refl _
  | n + 1 => by
    have := cap_pos n
    show 1 ≤ 60 * cap n
    omega
/-! ### what stays true -/
/-- the cells in a dict: numbers below six, each once, with values -/
structure Cl (l : List (Int × Int)) : Prop where
  ks : ∀ p ∈ l, 0 ≤ p.1 ∧ p.1 < 6
  vs : ∀ p ∈ l, Ok1 p.2
  nd : (l.map (·.1)).Nodup
structure MemOk (mem : List Int) : Prop where
  len : mem.length = 6
  vs : ∀ z ∈ mem, Ok1 z
structure Good (st : Stt) : Prop where
  x : Ok1 st.x
  y : Ok1 st.y
  r : Cl st.reads
  w : Cl st.writes
theorem nodup_le : ∀ (n : Nat) (l : List Int), l.Nodup → (∀ z ∈ l, 0 ≤ z ∧ z < (n : Int)) → l.length ≤ n
  | 0, [], _, _ => Nat.le_refl _
  | 0, z :: _, _, h => by
    have := h z List.mem_cons_self
    omega
  | n + 1, l, nd, h => by
    by_cases m : (n : Int) ∈ l
    · have h1 := nodup_le n (l.erase (n : Int)) (nd.erase _) fun z hz => by
        have q := (List.Nodup.mem_erase_iff nd).mp hz
        have := h z q.2
        have := q.1
        omega
      have h2 := List.length_erase_of_mem m
      have h3 := List.length_pos_of_mem m
      omega
    · have h1 := nodup_le n l nd fun z hz => by
        have := h z hz
        have : z ≠ (n : Int) := fun e => m (e ▸ hz)
        omega
      omega
theorem Cl.len {l : List (Int × Int)} (h : Cl l) : l.length ≤ 6 := by
  have := nodup_le 6 (l.map (·.1)) h.nd fun z hz => by
    obtain ⟨p, hp, rfl⟩ := List.mem_map.mp hz
    exact h.ks p hp
  simpa using this
theorem Cl.nil : Cl [] := ⟨fun _ h => (nomatch h), fun _ h => (nomatch h), List.nodup_nil⟩
theorem lookI_mem : ∀ {l : List (Int × Int)} {k z : Int}, lookI l k = some z → (k, z) ∈ l
  | [], _, _, h => by cases h
  | p :: r, k, z, h => by
    unfold lookI at h
    rw [List.find?_cons] at h
    by_cases e : p.1 = k
    · rw [decide_eq_true e] at h
      have e2 : p.2 = z := Option.some.inj h
      obtain ⟨p1, p2⟩ := p
      subst e e2
      exact List.mem_cons_self
    · rw [decide_eq_false e] at h
      exact List.mem_cons_of_mem _ (lookI_mem (l := r) h)
theorem lookI_none : ∀ {l : List (Int × Int)} {k : Int}, lookI l k = none → k ∉ l.map (·.1)
  | [], _, _ => List.not_mem_nil
  | p :: r, k, h => by
    unfold lookI at h
    rw [List.find?_cons] at h
    by_cases e : p.1 = k
    · rw [decide_eq_true e] at h
      cases h
    · rw [decide_eq_false e] at h
      have := lookI_none (l := r) h
      intro m
      rw [List.map_cons, List.mem_cons] at m
      exact m.elim (fun q => e q.symm) this
theorem any_look (l : List (Int × Int)) (k : Int) : (l.any fun p => decide (p.1 = k)) = (lookI l k).isSome := by
  induction l with
  | nil => rfl
  | cons p r ih =>
    rw [List.any_cons, ih]
    unfold lookI
    rw [List.find?_cons]
    by_cases e : p.1 = k
    · rw [decide_eq_true e]
      rfl
    · rw [decide_eq_false e]
      rfl
theorem Cl.put {l : List (Int × Int)} {k z : Int} (h : Cl l) (h0 : 0 ≤ k) (h6 : k < 6) (hz : Ok1 z) : Cl (putI l k z) := by
  unfold putI
  rw [any_look]
  cases e : lookI l k with
  | some w =>
    rw [if_pos (show (some w).isSome = true from rfl)]
    have em : (l.map fun p => if p.1 = k then (p.1, z) else p).map (·.1) = l.map (·.1) := by
      rw [List.map_map]
      refine List.map_congr_left fun p _ => ?_
      show (if p.1 = k then (p.1, z) else p).1 = p.1
      split <;> rfl
    refine ⟨fun p hp => ?_, fun p hp => ?_, by rw [em]; exact h.nd⟩
    · obtain ⟨q, hq, rfl⟩ := List.mem_map.mp hp
      have := h.ks q hq
      split <;> exact this
    · obtain ⟨q, hq, rfl⟩ := List.mem_map.mp hp
      have := h.vs q hq
      split
      · exact hz
      · exact this
  | none =>
    rw [if_neg (show ¬ (none : Option Int).isSome = true from Bool.false_ne_true)]
    refine ⟨fun p hp => ?_, fun p hp => ?_, ?_⟩
    · rcases List.mem_append.mp hp with q | q
      · exact h.ks p q
      · have e : p = (k, z) := by simpa using q
        subst e
        exact ⟨h0, h6⟩
    · rcases List.mem_append.mp hp with q | q
      · exact h.vs p q
      · have e : p = (k, z) := by simpa using q
        subst e
        exact hz
    · rw [List.map_append]
      refine List.nodup_append.mpr ⟨h.nd, by simp, fun a ha b hb => ?_⟩
      have eb : b = k := by simpa using hb
      subst eb
      exact fun q => lookI_none e (q ▸ ha)
/-- what an expression leaves -/
def RGood (st : Stt) : Rs → Prop
  | .ok v s1 => Ok1 v ∧ Good s1 ∧ s1.later = st.later
  | .er _ s1 => Good s1 ∧ s1.later = st.later
theorem ok01 (p : Prop) [Decidable p] : Ok1 (if p then 0 else 1) := by
  by_cases h : p
  · rw [if_pos h]; exact ⟨by decide, by decide⟩
  · rw [if_neg h]; exact ⟨by decide, by decide⟩
theorem ok10 (p : Prop) [Decidable p] : Ok1 (if p then 1 else 0) := by
  by_cases h : p
  · rw [if_pos h]; exact ⟨by decide, by decide⟩
  · rw [if_neg h]; exact ⟨by decide, by decide⟩
theorem ckV_ok {n v : Int} (h : ckV n = .ok v) : v = n ∧ Ok1 n := by
  unfold ckV at h
  split at h
  · rename_i q
    exact ⟨(Except.ok.inj h).symm, q⟩
  · cases h
theorem twoV_ok {k : Bk} {v w z : Int} (h : twoV k v w = .ok z) : Ok1 z := by
  have hc : ∀ {n : Int}, ckV n = .ok z → Ok1 z := fun q => by
    obtain ⟨e, o⟩ := ckV_ok q
    rw [e]; exact o
  have hz : ∀ {n : Int}, (if w = 0 then .error .zero else ckV n) = (.ok z : Except Wd Int) → Ok1 z := fun q => by
    split at q
    · cases q
    · exact hc q
  have hb : ∀ {p : Prop} [Decidable p], (.ok (if p then 1 else 0) : Except Wd Int) = .ok z → Ok1 z := fun q => by
    rw [← Except.ok.inj q]; exact ok10 _
  cases k with
  | plus => exact hc h
  | minus => exact hc h
  | times => exact hc h
  | over => exact hz h
  | rest => exact hz h
  | less => exact hb h
  | atmost => exact hb h
  | same => exact hb h
  | and => exact hb h
  | or => exact hb h
theorem lift_good {r : Except Wd Int} {st s0 : Stt} (g : Good st) (e : st.later = s0.later) (h : ∀ z, r = .ok z → Ok1 z) : RGood s0 (liftS st r) := by
  cases r with
  | ok v => exact ⟨h v rfl, g, e⟩
  | error r => exact ⟨g, e⟩
theorem ck_good {n : Int} {st s0 : Stt} (g : Good st) (e : st.later = s0.later) : RGood s0 (ck n st) := lift_good g e fun z q => by
  obtain ⟨e, o⟩ := ckV_ok q
  rw [e]; exact o
theorem two_good {k : Bk} {v w : Int} {st s0 : Stt} (g : Good st) (e : st.later = s0.later) : RGood s0 (two k v w st) := lift_good g e fun _ q => twoV_ok q
theorem first_size (c : Nm) {v : Int} (h0 : 0 ≤ v) (h1 : v < sizeOf c) : 0 ≤ firstOf c + v ∧ firstOf c + v < 6 := by
  cases c <;> simp only [firstOf, sizeOf] at * <;> omega
theorem getD_ok {mem : List Int} (m : MemOk mem) (k : Nat) (hk : k < 6) : Ok1 (mem.getD k 0) := by
  have hl : k < mem.length := by rw [m.len]; exact hk
  rw [List.getD_eq_getElem?_getD, List.getElem?_eq_getElem hl]
  exact m.vs _ (List.getElem_mem hl)
theorem rdC_good {mem : List Int} (m : MemOk mem) {k : Int} (h0 : 0 ≤ k) (h6 : k < 6) {st s0 : Stt} (g : Good st) (e : st.later = s0.later) : RGood s0 (rdC mem k st) := by
  unfold rdC
  split
  · rename_i z hz
    exact ⟨g.w.vs _ (lookI_mem hz), g, e⟩
  · have hz := getD_ok m k.toNat (by omega)
    exact ⟨hz, ⟨g.x, g.y, g.r.put h0 h6 hz, g.w⟩, e⟩
theorem RGood.trans {s0 s1 : Stt} (e : s1.later = s0.later) : ∀ {r : Rs}, RGood s1 r → RGood s0 r
  | .ok _ _, h => ⟨h.1, h.2.1, h.2.2.trans e⟩
  | .er _ _, h => ⟨h.1, h.2.trans e⟩
theorem tf_good {s0 s1 : Stt} (e : s1.later = s0.later) : ∀ {r : Rs}, RGood s1 r → RGood s0 (tf r)
  | .ok _ _, h => ⟨ok01 _, h.2.1, h.2.2.trans e⟩
  | .er _ _, h => ⟨h.1, h.2.trans e⟩
theorem two2_good {k : Bk} {v : Int} {s0 s1 : Stt} (e : s1.later = s0.later) : ∀ {r : Rs}, RGood s1 r → RGood s0 (two2 k v r)
  | .ok _ _, h => two_good h.2.1 (h.2.2.trans e)
  | .er _ _, h => ⟨h.1, h.2.trans e⟩
theorem binB_good {k : Bk} {v : Int} {f : Stt → Rs} {s0 s1 : Stt} (g : Good s1) (e : s1.later = s0.later) (h : RGood s1 (f s1)) : RGood s0 (binB k v f s1) := by
  have z0 : RGood s0 (.ok 0 s1) := ⟨⟨by decide, by decide⟩, g, e⟩
  have z1 : RGood s0 (.ok 1 s1) := ⟨⟨by decide, by decide⟩, g, e⟩
  cases k with
  | and =>
    show RGood s0 (if v = 0 then .ok 0 s1 else tf (f s1))
    by_cases q : v = 0
    · rw [if_pos q]; exact z0
    · rw [if_neg q]; exact tf_good e h
  | or =>
    show RGood s0 (if v = 0 then tf (f s1) else .ok 1 s1)
    by_cases q : v = 0
    · rw [if_pos q]; exact tf_good e h
    · rw [if_neg q]; exact z1
  | plus => exact two2_good e h
  | minus => exact two2_good e h
  | times => exact two2_good e h
  | over => exact two2_good e h
  | rest => exact two2_good e h
  | less => exact two2_good e h
  | atmost => exact two2_good e h
  | same => exact two2_good e h
theorem evE_good {mem : List Int} (m : MemOk mem) : ∀ (e : Ex) (st : Stt), Good st → RGood st (evE mem e st)
  | .num n, st, g => ck_good g rfl
  | .loc .x, st, g => ⟨g.x, g, rfl⟩
  | .loc .y, st, g => ⟨g.y, g, rfl⟩
  | .cell c i, st, g => by
    have h := evE_good m i st g
    unfold evE
    revert h
    cases evE mem i st with
    | er r s1 => exact fun h => h
    | ok v s1 =>
      intro ⟨h1, h2, h3⟩
      dsimp only
      split
      · rename_i hv
        have := first_size c hv.1 hv.2
        exact rdC_good m this.1 this.2 h2 h3
      · exact ⟨h2, h3⟩
  | .neg a, st, g => by
    have h := evE_good m a st g
    unfold evE
    revert h
    cases evE mem a st with
    | er r s1 => exact fun h => h
    | ok v s1 =>
      intro ⟨h1, h2, h3⟩
      exact ⟨⟨by omega, by omega⟩, h2, h3⟩
  | .no a, st, g => by
    have h := evE_good m a st g
    unfold evE
    revert h
    cases evE mem a st with
    | er r s1 => exact fun h => h
    | ok v s1 =>
      intro ⟨h1, h2, h3⟩
      exact ⟨ok10 _, h2, h3⟩
  | .bin k a b, st, g => by
    have h := evE_good m a st g
    have hb := fun s1 (g1 : Good s1) => evE_good m b s1 g1
    unfold evE
    revert h
    cases evE mem a st with
    | er r s1 => exact fun h => h
    | ok v s1 =>
      intro ⟨h1, h2, h3⟩
      exact binB_good h2 h3 (hb s1 h2)
theorem Good.setL {st : Stt} (g : Good st) {l : Lc} {z : Int} (h : Ok1 z) : Good (setL l z st) := by
  cases l
  · exact ⟨h, g.y, g.r, g.w⟩
  · exact ⟨g.x, h, g.r, g.w⟩
theorem setL_later (l : Lc) (z : Int) (st : Stt) : (K13.setL l z st).later = st.later := by cases l <;> rfl
/-- what a statement leaves: all well, at most so many more to be said -/
def OGood (st : Stt) (n : Nat) (o : Oc × Stt) : Prop := Good o.2 ∧ o.2.later.length ≤ st.later.length + n
theorem runL_good {f : Sm → Stt → Oc × Stt} {c : Nat} : ∀ (b : List Sm), (∀ s ∈ b, ∀ st, Good st → OGood st c (f s st)) → ∀ st, Good st → OGood st (b.length * c) (runL f b st)
  | [], _, st, g => ⟨g, Nat.le_add_right _ _⟩
  | s :: r, h, st, g => by
    have h1 := h s List.mem_cons_self st g
    have h2 := runL_good r fun t ht => h t (List.mem_cons_of_mem _ ht)
    have el : (s :: r).length * c = r.length * c + c := by rw [List.length_cons, Nat.succ_mul]
    unfold runL
    revert h1
    cases f s st with
    | mk o s1 =>
      intro ⟨g1, l1⟩
      cases o with
      | done =>
        obtain ⟨g2, l2⟩ := h2 s1 g1
        exact ⟨g2, by dsimp only at *; omega⟩
      | retry => exact ⟨g1, by dsimp only at *; omega⟩
      | undo => exact ⟨g1, by dsimp only at *; omega⟩
      | fault w => exact ⟨g1, by dsimp only at *; omega⟩
theorem runN_good {g : Stt → Oc × Stt} {c : Nat} (h : ∀ st, Good st → OGood st c (g st)) : ∀ (n : Nat) (st : Stt), Good st → OGood st (n * c) (runN g n st)
  | 0, st, gd => ⟨gd, Nat.le_add_right _ _⟩
  | n + 1, st, gd => by
    have h1 := h st gd
    have h2 := runN_good h n
    have el : (n + 1) * c = n * c + c := Nat.succ_mul _ _
    unfold runN
    revert h1
    cases g st with
    | mk o s1 =>
      intro ⟨g1, l1⟩
      cases o with
      | done =>
        obtain ⟨g2, l2⟩ := h2 s1 g1
        exact ⟨g2, by dsimp only at *; omega⟩
      | retry => exact ⟨g1, by dsimp only at *; omega⟩
      | undo => exact ⟨g1, by dsimp only at *; omega⟩
      | fault w => exact ⟨g1, by dsimp only at *; omega⟩
theorem OGood.mono {st : Stt} {m n : Nat} {o : Oc × Stt} (h : OGood st m o) (q : m ≤ n) : OGood st n o := ⟨h.1, Nat.le_trans h.2 (Nat.add_le_add_left q _)⟩
theorem base_good {mem : List Int} (m : MemOk mem) (n : Nat) (e : Ex) {st : Stt} (g : Good st) {f : Int → Stt → Oc × Stt} (h : ∀ v s1, Ok1 v → Good s1 → s1.later = st.later → OGood st n (f v s1)) :
    OGood st n (match evE mem e st with
      | .er r s1 => (.fault r, s1)
      | .ok v s1 => f v s1) := by
  have q := evE_good m e st g
  revert q
  cases evE mem e st with
  | er r s1 => exact fun q => ⟨q.1, by have := congrArg List.length q.2; dsimp only; omega⟩
  | ok v s1 => exact fun q => h v s1 q.1 q.2.1 q.2.2
theorem len_eq {s1 st : Stt} (h : s1.later = st.later) : s1.later.length = st.later.length := congrArg List.length h
theorem OGood.from {st s1 : Stt} {n : Nat} {o : Oc × Stt} (h : OGood s1 n o) (e : s1.later.length = st.later.length) : OGood st n o := ⟨h.1, by have := h.2; omega⟩
theorem runS_good {mem : List Int} (m : MemOk mem) : ∀ (n : Nat) (s : Sm), Wf n s → ∀ st, Good st → OGood st (cap n) (runS mem n s st) := by
  intro n
  induction n with
  | zero =>
    intro s w st g
    have one : cap 0 = 1 := rfl
    cases s with
    | set l e =>
      unfold runS
      exact base_good m _ e g fun v s1 hv g1 e1 => ⟨g1.setL hv, by rw [setL_later, e1]; exact Nat.le_add_right _ _⟩
    | put c i e =>
      unfold runS
      refine base_good m _ i g fun v s1 hv g1 e1 => OGood.from ?_ (len_eq e1)
      refine base_good m _ e g1 fun z s2 hz g2 e2 => ?_
      split
      · rename_i q
        have := first_size c q.1 q.2
        exact ⟨⟨g2.x, g2.y, g2.r, g2.w.put this.1 this.2 hz⟩, by have := len_eq e2; dsimp only; omega⟩
      · exact ⟨g2, by have := len_eq e2; dsimp only; omega⟩
    | later e =>
      unfold runS
      exact base_good m _ e g fun v s1 hv g1 e1 => ⟨⟨g1.x, g1.y, g1.r, g1.w⟩, by have := len_eq e1; dsimp only; rw [List.length_append, List.length_singleton, one]; omega⟩
    | retry => exact ⟨g, Nat.le_add_right _ _⟩
    | undo => exact ⟨g, Nat.le_add_right _ _⟩
    | ite c a b => exact w.elim
    | rep c a => exact w.elim
    | cho a b => exact w.elim
  | succ n ih =>
    intro s w st g
    have hc := cap_pos n
    have ec : cap (n + 1) = 60 * cap n := rfl
    have body : ∀ b : List Sm, WfB n b → ∀ st, Good st → OGood st (3 * cap n) (runL (runS mem n) b st) := fun b hb st g =>
      (runL_good b (fun s hs st g => ih s (hb.2 s hs) st g) st g).mono (Nat.mul_le_mul_right _ hb.1)
    cases s with
    | set l e =>
      unfold runS
      exact base_good m _ e g fun v s1 hv g1 e1 => ⟨g1.setL hv, by rw [setL_later, e1]; exact Nat.le_add_right _ _⟩
    | put c i e =>
      unfold runS
      refine base_good m _ i g fun v s1 hv g1 e1 => OGood.from ?_ (len_eq e1)
      refine base_good m _ e g1 fun z s2 hz g2 e2 => ?_
      split
      · rename_i q
        have := first_size c q.1 q.2
        exact ⟨⟨g2.x, g2.y, g2.r, g2.w.put this.1 this.2 hz⟩, by have := len_eq e2; dsimp only; omega⟩
      · exact ⟨g2, by have := len_eq e2; dsimp only; omega⟩
    | later e =>
      unfold runS
      exact base_good m _ e g fun v s1 hv g1 e1 => ⟨⟨g1.x, g1.y, g1.r, g1.w⟩, by have := len_eq e1; dsimp only; rw [List.length_append, List.length_singleton]; omega⟩
    | retry => exact ⟨g, Nat.le_add_right _ _⟩
    | undo => exact ⟨g, Nat.le_add_right _ _⟩
    | ite c a b =>
      unfold runS
      refine base_good m _ c g fun v s1 hv g1 e1 => OGood.from ?_ (len_eq e1)
      split
      · exact (body b w.2 s1 g1).mono (by omega)
      · exact (body a w.1 s1 g1).mono (by omega)
    | rep c a =>
      unfold runS
      refine base_good m _ c g fun v s1 hv g1 e1 => OGood.from ?_ (len_eq e1)
      split
      · rename_i q
        refine (runN_good (body a w) v.toNat s1 g1).mono ?_
        have : v.toNat * (3 * cap n) ≤ 20 * (3 * cap n) := Nat.mul_le_mul_right _ (by omega)
        omega
      · exact ⟨g1, Nat.le_add_right _ _⟩
    | cho a b =>
      unfold runS
      have h1 := body a w.1 st g
      revert h1
      cases runL (runS mem n) a st with
      | mk o s1 =>
        intro ⟨g1, l1⟩
        cases o with
        | done => exact ⟨g1, by dsimp only at *; omega⟩
        | undo => exact ⟨g1, by dsimp only at *; omega⟩
        | fault r => exact ⟨g1, by dsimp only at *; omega⟩
        | retry => exact OGood.mono (OGood.from (body b w.2 { st with reads := s1.reads } ⟨g.x, g.y, g1.r, g.w⟩) rfl) (by omega)
theorem runB_good {mem : List Int} (m : MemOk mem) {n : Nat} {b : List Sm} (w : ∀ s ∈ b, Wf n s) {st : Stt} (g : Good st) : OGood st (b.length * cap n) (runL (runS mem n) b st) :=
  runL_good b (fun s hs st g => runS_good m n s (w s hs) st g) st g
end K13
set_option Elab.async false
set_option linter.all false
set_option maxRecDepth 100000
set_option maxHeartbeats 4000000
/-! K13T: the text by places; how data lies in the heap; promises in short. -/
namespace K13
open PySem PySem.Spec PyProof.Rows L2
/-! ### the text by places -/
def top (i : Nat) : Stmt := PySem.Challenge.pw_handshaker_k13_whole_blocks.main.body.getD i (.Pass ⟨0, 0, 0, 0⟩)
abbrev sFInit : Stmt := inClass (top 2) 0
abbrev sChecked : Stmt := top 5
abbrev sPlaceOf : Stmt := top 6
abbrev sCellNo : Stmt := top 7
abbrev sCombined : Stmt := top 8
abbrev sRInit : Stmt := inClass (top 9) 0
abbrev sValue : Stmt := inClass (top 9) 2
abbrev sOInit : Stmt := inClass (top 12) 0
abbrev sSame : Stmt := top 13
abbrev sEnded : Stmt := top 14
abbrev sBInit : Stmt := inClass (top 15) 0
abbrev sRead : Stmt := inClass (top 15) 1
abbrev sRun : Stmt := inClass (top 15) 2
abbrev sRunOne : Stmt := inClass (top 15) 3
abbrev sRepeat : Stmt := inClass (top 15) 4
abbrev sChoose : Stmt := inClass (top 15) 5
abbrev sRunBlock : Stmt := top 16
abbrev sMix : Stmt := top 18
abbrev sNumbers : Stmt := top 19
abbrev sTake : Stmt := top 20
abbrev sNumber : Stmt := top 21
abbrev sExp : Stmt := top 22
abbrev sIndex : Stmt := top 23
abbrev sCells : Stmt := top 24
abbrev sInRange : Stmt := top 25
abbrev sTwo : Stmt := top 26
abbrev sLValue : Stmt := top 27
abbrev sPlace : Stmt := top 28
abbrev sLRead : Stmt := top 29
abbrev sNew : Stmt := top 30
abbrev sBody : Stmt := top 31
abbrev sStatement : Stmt := top 32
abbrev sMemory : Stmt := top 33
abbrev sRuns : Stmt := top 34
abbrev sLRunOne : Stmt := top 35
abbrev sChosen : Stmt := top 36
abbrev sOutcome : Stmt := top 37
abbrev sParts : Stmt := top 38
abbrev sOther : Stmt := top 39
abbrev sLaw : Stmt := top 40
/-! ### words -/
def nmS : Nm → Str
  | .a => "a" | .b => "b" | .c => "c"
def lcS : Lc → Str
  | .x => "x" | .y => "y"
def bkS : Bk → Str
  | .plus => "plus" | .minus => "minus" | .times => "times" | .over => "over" | .rest => "rest" | .less => "less" | .atmost => "atmost" | .same => "same" | .and => "and" | .or => "or"
def wdS : Wd → Str
  | .range => "range" | .zero => "zero" | .index => "index" | .count => "count"
def ocS : Oc → Str
  | .done => "done" | .retry => "retry" | .undo => "undo" | .fault _ => "fault"
/-! ### tests whose answer is known -/
section
variable {A B : Prop}
theorem if_t {c : Bool} (h : c = true) (a : A) : if c = true then A else B := by rw [if_pos h]; exact a
theorem if_f {c : Bool} (h : c = false) (b : B) : if c = true then A else B := by rw [h, if_neg Bool.false_ne_true]; exact b
theorem if_2 {c : Bool} (h1 : c = true → A) (h2 : c = false → B) : if c = true then A else B := by
  cases c with
  | true => exact if_t rfl (h1 rfl)
  | false => exact if_f rfl (h2 rfl)
theorem dS_t {a b : Str} (h : (a == b) = true) : decide (V.str a = V.str b) = true := by rw [dec_str]; exact h
theorem dS_f {a b : Str} (h : (a == b) = false) : decide (V.str a = V.str b) = false := by rw [dec_str]; exact h
/-- the test a == b of two texts -/
theorem st_t {a b : Str} (h : (a == b) = true) (q : A) : if decide (V.str a = V.str b) = true then A else B := if_t (dS_t h) q
theorem st_f {a b : Str} (h : (a == b) = false) (q : B) : if decide (V.str a = V.str b) = true then A else B := if_f (dS_f h) q
end
/-! ### heaps -/
theorem sm_upd {H : Hp} {p : Addr} (h : H p = none) (o : HO) : Same H (upd H p o) := fun b u q => by rw [upd_ne (ne_of_none q h)]; exact q
/-- G below H, H changed at an address that G has not -/
theorem sm_put {G H : Hp} (s : Same G H) {p : Addr} (h : G p = none) (o : HO) : Same G (upd H p o) := fun b u q => by rw [upd_ne (ne_of_none q h)]; exact s b u q
theorem sm_new {G H : Hp} (s : Same G H) {p : Addr} (h : H p = none) (o : HO) : Same G (upd H p o) := s.trans (sm_upd h o)
theorem sm_both {G H : Hp} (s : Same G H) (p : Addr) (o : HO) : Same (upd G p o) (upd H p o) := fun b u q => by
  by_cases e : b = p
  · subst e
    rw [upd_same] at q ⊢
    exact q
  · rw [upd_ne e] at q ⊢
    exact s b u q
/-! ### ints in dicts -/
def kvI (l : List (Int × Int)) : List (Key × V) := l.map fun p => (Sum.inl p.1, V.int p.2)
theorem valV_kv : ∀ (l : List (Int × Int)) (k : Int), valV (kvI l) (Sum.inl k : Key) = (lookI l k).map V.int
  | [], _ => rfl
  | p :: r, k => by
    have ih := valV_kv r k
    by_cases e : p.1 = k
    · have e2 : (lookI (p :: r) k) = some p.2 := by unfold lookI; rw [List.find?_cons, decide_eq_true e]; rfl
      rw [e2]
      exact valV_pos (p := ((Sum.inl p.1, V.int p.2) : Key × V)) (r := kvI r) (congrArg Sum.inl e)
    · have e2 : (lookI (p :: r) k) = lookI r k := by unfold lookI; rw [List.find?_cons, decide_eq_false e]
      rw [e2, ← ih]
      exact valV_neg (p := ((Sum.inl p.1, V.int p.2) : Key × V)) (r := kvI r) fun q => e (Sum.inl.inj q)
theorem putK_kv (l : List (Int × Int)) (k z : Int) : putK (kvI l) (Sum.inl k : Key) (.int z) = kvI (putI l k z) := by
  unfold putK putI
  rw [valV_any, valV_kv, any_look]
  cases lookI l k with
  | some w =>
    rw [if_pos (show ((some w).map V.int).isSome = true from rfl), if_pos (show (some w).isSome = true from rfl)]
    unfold kvI
    rw [List.map_map, List.map_map]
    refine List.map_congr_left fun p _ => ?_
    by_cases e : p.1 = k
    · show (if (Sum.inl p.1 : Key) = Sum.inl k then ((Sum.inl p.1 : Key), V.int z) else (Sum.inl p.1, V.int p.2)) = (fun p : Int × Int => ((Sum.inl p.1 : Key), V.int p.2)) (if p.1 = k then (p.1, z) else p)
      rw [if_pos e, if_pos (congrArg Sum.inl e)]
    · show (if (Sum.inl p.1 : Key) = Sum.inl k then ((Sum.inl p.1 : Key), V.int z) else (Sum.inl p.1, V.int p.2)) = (fun p : Int × Int => ((Sum.inl p.1 : Key), V.int p.2)) (if p.1 = k then (p.1, z) else p)
      rw [if_neg e, if_neg fun q => e (Sum.inl.inj q)]
  | none =>
    rw [if_neg (show ¬ ((none : Option Int).map V.int).isSome = true from Bool.false_ne_true), if_neg (show ¬ (none : Option Int).isSome = true from Bool.false_ne_true)]
    unfold kvI
    rw [List.map_append]
    rfl
theorem kvI_len (l : List (Int × Int)) : (kvI l).length = l.length := List.length_map _
theorem small_line {n : Nat} (h : n ≤ 1000000) : n < sizeLine := by rw [sizeLine_eq]; omega
theorem kvI_line {l : List (Int × Int)} (h : Cl l) : (kvI l).length < sizeLine := by
  rw [kvI_len]
  exact small_line (by have := h.len; omega)
/-- the locals' dict -/
def locK (x y : Int) : List (Key × V) := [(Sum.inr ("x" : Str), V.int x), (Sum.inr ("y" : Str), V.int y)]
theorem locK_get (st : Stt) (l : Lc) : valV (locK st.x st.y) (Sum.inr (lcS l) : Key) = some (.int (locV st l)) := by
  have yx : ¬ (Sum.inr ("x" : Str) : Key) = Sum.inr ("y" : Str) := by decide +kernel
  cases l with
  | x => exact valV_pos rfl
  | y => exact (valV_neg yx).trans (valV_pos rfl)
theorem locK_put (st : Stt) (l : Lc) (z : Int) : putK (locK st.x st.y) (Sum.inr (lcS l) : Key) (.int z) = locK (setL l z st).x (setL l z st).y := by
  have yx : ¬ (Sum.inr ("x" : Str) : Key) = Sum.inr ("y" : Str) := by decide +kernel
  have xy : ¬ (Sum.inr ("y" : Str) : Key) = Sum.inr ("x" : Str) := by decide +kernel
  unfold putK
  rw [valV_any, locK_get, if_pos (show (some (V.int (locV st l))).isSome = true from rfl)]
  cases l with
  | x =>
    show [if (Sum.inr ("x" : Str) : Key) = Sum.inr ("x" : Str) then ((Sum.inr ("x" : Str) : Key), V.int z) else _, if (Sum.inr ("y" : Str) : Key) = Sum.inr ("x" : Str) then ((Sum.inr ("y" : Str) : Key), V.int z) else ((Sum.inr ("y" : Str) : Key), V.int st.y)] = _
    rw [if_pos rfl, if_neg xy]; rfl
  | y =>
    show [if (Sum.inr ("x" : Str) : Key) = Sum.inr ("y" : Str) then ((Sum.inr ("x" : Str) : Key), V.int z) else ((Sum.inr ("x" : Str) : Key), V.int st.x), if (Sum.inr ("y" : Str) : Key) = Sum.inr ("y" : Str) then ((Sum.inr ("y" : Str) : Key), V.int z) else _] = _
    rw [if_pos rfl, if_neg yx]; rfl
/-! ### how a block lies in the heap -/
def ExAt (G : Hp) : Ex → V → Prop
  | .num n, v => ∃ a, v = .ref a ∧ G a = some (.tup [.str "number", .int n])
  | .loc l, v => ∃ a, v = .ref a ∧ G a = some (.tup [.str "local", .str (lcS l)])
  | .cell c i, v => ∃ a u, v = .ref a ∧ G a = some (.tup [.str "cell", .str (nmS c), u]) ∧ ExAt G i u
  | .neg e, v => ∃ a u, v = .ref a ∧ G a = some (.tup [.str "negative", u]) ∧ ExAt G e u
  | .no e, v => ∃ a u, v = .ref a ∧ G a = some (.tup [.str "not", u]) ∧ ExAt G e u
  | .bin k e f, v => ∃ a u w, v = .ref a ∧ G a = some (.tup [.str (bkS k), u, w]) ∧ ExAt G e u ∧ ExAt G f w
theorem ExAt.mono {G G' : Hp} (s : Same G G') : ∀ (e : Ex) (v : V), ExAt G e v → ExAt G' e v
  | .num _, _, ⟨a, h1, h2⟩ => ⟨a, h1, s _ _ h2⟩
  | .loc _, _, ⟨a, h1, h2⟩ => ⟨a, h1, s _ _ h2⟩
  | .cell _ i, _, ⟨a, u, h1, h2, h3⟩ => ⟨a, u, h1, s _ _ h2, ExAt.mono s i u h3⟩
  | .neg e, _, ⟨a, u, h1, h2, h3⟩ => ⟨a, u, h1, s _ _ h2, ExAt.mono s e u h3⟩
  | .no e, _, ⟨a, u, h1, h2, h3⟩ => ⟨a, u, h1, s _ _ h2, ExAt.mono s e u h3⟩
  | .bin _ e f, _, ⟨a, u, w, h1, h2, h3, h4⟩ => ⟨a, u, w, h1, s _ _ h2, ExAt.mono s e u h3, ExAt.mono s f w h4⟩
/-- a list of statements at q -/
def BodyAt (G : Hp) (f : Sm → V → Prop) (l : List Sm) (q : Addr) : Prop := ∃ vs, G q = some (.lst vs) ∧ Paired f l vs
def SmAt (G : Hp) : Nat → Sm → V → Prop
  | _, .set l e, v => ∃ a u, v = .ref a ∧ G a = some (.tup [.str "set", .str (lcS l), u]) ∧ ExAt G e u ∧ exD e ≤ 3
  | _, .put c i e, v => ∃ a u w, v = .ref a ∧ G a = some (.tup [.str "put", .str (nmS c), u, w]) ∧ (ExAt G i u ∧ exD i ≤ 3) ∧ ExAt G e w ∧ exD e ≤ 3
  | _, .later e, v => ∃ a u, v = .ref a ∧ G a = some (.tup [.str "later", u]) ∧ ExAt G e u ∧ exD e ≤ 3
  | _, .retry, v => ∃ a, v = .ref a ∧ G a = some (.tup [.str "retry"])
  | _, .undo, v => ∃ a, v = .ref a ∧ G a = some (.tup [.str "undo"])
  | n + 1, .ite c a b, v => ∃ p u q r, v = .ref p ∧ G p = some (.tup [.str "if", u, .ref q, .ref r]) ∧ (ExAt G c u ∧ exD c ≤ 3) ∧ BodyAt G (SmAt G n) a q ∧ BodyAt G (SmAt G n) b r
  | n + 1, .rep c a, v => ∃ p u q, v = .ref p ∧ G p = some (.tup [.str "repeat", u, .ref q]) ∧ (ExAt G c u ∧ exD c ≤ 3) ∧ BodyAt G (SmAt G n) a q
  | n + 1, .cho a b, v => ∃ p q r, v = .ref p ∧ G p = some (.tup [.str "choose", .ref q, .ref r]) ∧ BodyAt G (SmAt G n) a q ∧ BodyAt G (SmAt G n) b r
  | 0, .ite _ _ _, _ => False
  | 0, .rep _ _, _ => False
  | 0, .cho _ _, _ => False
theorem BodyAt.mono {G G' : Hp} (s : Same G G') {f g : Sm → V → Prop} (h : ∀ s v, f s v → g s v) {l : List Sm} {q : Addr} : BodyAt G f l q → BodyAt G' g l q
  | ⟨vs, h1, h2⟩ => ⟨vs, s _ _ h1, Paired.mapP h2 h⟩
theorem SmAt.mono {G G' : Hp} (s : Same G G') : ∀ (n : Nat) (m : Sm) (v : V), SmAt G n m v → SmAt G' n m v := by
  intro n
  induction n with
  | zero =>
    intro m v h
    cases m with
    | set l e => obtain ⟨a, u, h1, h2, h3, h4⟩ := h; exact ⟨a, u, h1, s _ _ h2, h3.mono s, h4⟩
    | put c i e => obtain ⟨a, u, w, h1, h2, h3, h4⟩ := h; exact ⟨a, u, w, h1, s _ _ h2, ⟨h3.1.mono s, h3.2⟩, h4.1.mono s, h4.2⟩
    | later e => obtain ⟨a, u, h1, h2, h3, h4⟩ := h; exact ⟨a, u, h1, s _ _ h2, h3.mono s, h4⟩
    | retry => obtain ⟨a, h1, h2⟩ := h; exact ⟨a, h1, s _ _ h2⟩
    | undo => obtain ⟨a, h1, h2⟩ := h; exact ⟨a, h1, s _ _ h2⟩
    | ite c a b => exact h.elim
    | rep c a => exact h.elim
    | cho a b => exact h.elim
  | succ n ih =>
    intro m v h
    cases m with
    | set l e => obtain ⟨a, u, h1, h2, h3, h4⟩ := h; exact ⟨a, u, h1, s _ _ h2, h3.mono s, h4⟩
    | put c i e => obtain ⟨a, u, w, h1, h2, h3, h4⟩ := h; exact ⟨a, u, w, h1, s _ _ h2, ⟨h3.1.mono s, h3.2⟩, h4.1.mono s, h4.2⟩
    | later e => obtain ⟨a, u, h1, h2, h3, h4⟩ := h; exact ⟨a, u, h1, s _ _ h2, h3.mono s, h4⟩
    | retry => obtain ⟨a, h1, h2⟩ := h; exact ⟨a, h1, s _ _ h2⟩
    | undo => obtain ⟨a, h1, h2⟩ := h; exact ⟨a, h1, s _ _ h2⟩
    | ite c a b => obtain ⟨p, u, q, r, h1, h2, h3, h4, h5⟩ := h; exact ⟨p, u, q, r, h1, s _ _ h2, ⟨h3.1.mono s, h3.2⟩, h4.mono s ih, h5.mono s ih⟩
    | rep c a => obtain ⟨p, u, q, h1, h2, h3, h4⟩ := h; exact ⟨p, u, q, h1, s _ _ h2, ⟨h3.1.mono s, h3.2⟩, h4.mono s ih⟩
    | cho a b => obtain ⟨p, q, r, h1, h2, h4, h5⟩ := h; exact ⟨p, q, r, h1, s _ _ h2, h4.mono s ih, h5.mono s ih⟩
/-- the list of the cells -/
def CellsAt (G : Hp) (a : Addr) : Prop := ∃ t1 t2 t3, G a = some (.lst [.ref t1, .ref t2, .ref t3]) ∧ G t1 = some (.tup [.str "a", .int 2, .int 3]) ∧ G t2 = some (.tup [.str "b", .int 1, .int 0]) ∧ G t3 = some (.tup [.str "c", .int 3, .int (-1)])
theorem CellsAt.mono {G G' : Hp} (s : Same G G') {a : Addr} : CellsAt G a → CellsAt G' a
  | ⟨t1, t2, t3, h, h1, h2, h3⟩ => ⟨t1, t2, t3, s _ _ h, s _ _ h1, s _ _ h2, s _ _ h3⟩
/-- the heap without one address; what is new in a heap -/
def wo (r : Addr) (H : Hp) : Hp := fun b => if b = r then none else H b
theorem wo_ne {r b : Addr} {H : Hp} (h : b ≠ r) : wo r H b = H b := if_neg h
theorem wo_self {r : Addr} {H : Hp} : wo r H r = none := if_pos rfl
theorem wo_none {r b : Addr} {H : Hp} (h : H b = none) : wo r H b = none := by
  unfold wo
  by_cases e : b = r
  · rw [if_pos e]
  · rw [if_neg e]; exact h
theorem wo_some {r b : Addr} {H : Hp} {o : HO} (h : wo r H b = some o) : b ≠ r ∧ H b = some o := by
  unfold wo at h
  by_cases e : b = r
  · rw [if_pos e] at h; cases h
  · rw [if_neg e] at h; exact ⟨e, h⟩
theorem wo_of {r b : Addr} {H : Hp} {o : HO} (h : H b = some o) (ne : b ≠ r) : wo r H b = some o := (wo_ne ne).trans h
def nw (B H : Hp) : Hp := fun b => match B b with
  | none => H b
  | some _ => none
theorem nw_of {B H : Hp} {b : Addr} {o : HO} (h : H b = some o) (n : B b = none) : nw B H b = some o := by
  unfold nw
  rw [n]
  exact h
theorem nw_some {B H : Hp} {b : Addr} {o : HO} (h : nw B H b = some o) : B b = none ∧ H b = some o := by
  unfold nw at h
  cases e : B b with
  | none => rw [e] at h; exact ⟨rfl, h⟩
  | some u => rw [e] at h; cases h
theorem nw_low {B H : Hp} : Same (nw B H) H := fun _ _ e => (nw_some e).2
theorem nw_base {B C H : Hp} (s : ∀ b, C b = none → B b = none) : Same (nw C H) (nw B H) := fun b o e => nw_of (nw_some e).2 (s b (nw_some e).1)
/-! ### promises -/
/-- a def that keeps a promise, ready to be called -/
structure Pr (P : Program) (w : World) (K : PySem.W.Frag) (mg : Str → Option Value) (base : Heap) (CX : CXT) (k : Nat) (f : Addr) (ps : List Str) (sp : Sp) : Prop where
  ok : ∃ fd, FnOk P w K mg base CX k f fd ps sp ∧ Binds K fd ps []
  kp : PySem.W.keepIn K (.ref f) = true
theorem Pr.mono {P : Program} {w : World} {K : PySem.W.Frag} {mg : Str → Option Value} {base : Heap} {CX : CXT} {j k : Nat} {f : Addr} {ps : List Str} {sp : Sp} (h : Pr P w K mg base CX j f ps sp) (q : j ≤ k) : Pr P w K mg base CX k f ps sp :=
  ⟨h.ok.elim fun fd z => ⟨fd, z.1.mono q, z.2⟩, h.kp⟩
/-- the object of a def of the text, without defaults -/
abbrev FnP (K : PySem.W.Frag) (x qual : Str) (st : Stmt) (f : Addr) : Prop := ∃ fd, FunD K x qual (defArgs st) (defBody st) (defScope st) [] [] f fd
/-- an error of the class Fault flies, its reason r; all that was tracked stands -/
def ErK (K : PySem.W.Frag) (E : XK) (H : Hp) (r : Wd) : Prop := ∀ (d : Addr) (H' : Hp), Same H H' → H' d = some (.xd [("reason", .str (wdS r))]) → E (.ref (He.ga K "Fault")) (some d) H'
section
variable {X : Cx} {CX : CXT} {k : Nat} {f C : Addr} {ps : List Str} {sp : Sp} {E : XK} {x m : Str} {p pos apos : Pos} {e o : Expr} {es : List Expr} {ta : TE} {t : TA}
theorem pe_callP (F : Pr X.prog X.w X.K X.mg X.base CX k f ps sp) (hr : Room k X.A) (hg : Gl X x) (hm : X.mg x = some (.ref f)) (hx : Passes CX X E)
    (ha : PA X (e :: es) t) (hdb : (x == ("__debug__" : Str)) = false := by decide) (he : starEach (e :: es) X.env = (false, eval e X.env) :: starEach es X.env := by rfl) (hpl : (backTo pos (starEach es X.env)).any (·.1) = false := by rfl) :
    PE X (.Call (.Name x p) (e :: es) [] pos) (tCall sp [] E t) := by
  obtain ⟨fd, h1, h2⟩ := F.ok
  exact pe_call h1 hr hg hm F.kp h2 .nil hx ha hdb he hpl
theorem pe_callP0 (F : Pr X.prog X.w X.K X.mg X.base CX k f ps sp) (hr : Room k X.A) (hg : Gl X x) (hm : X.mg x = some (.ref f)) (hx : Passes CX X E)
    (hdb : (x == ("__debug__" : Str)) = false := by decide) : PE X (.Call (.Name x p) [] [] pos) (tCall sp [] E tNil) := by
  obtain ⟨fd, h1, h2⟩ := F.ok
  exact pe_call0 h1 hr hg hm F.kp h2 .nil hx hdb
theorem pe_methP {pl : Sem Bool} (F : Pr X.prog X.w X.K X.mg X.base CX k f ps sp) (c : Cls X.K C) (hm : Meth X.K C m f) (hr : Room k X.A) (hx : Passes CX X E) (he : PE X o ta) (ha : PA X (e :: es) t)
    (hst : starEach (e :: es) X.env = (false, eval e X.env) :: starEach es X.env := by rfl) (hpl : (backTo pos (starEach es X.env)).any (·.1) = false := by rfl)
    (ht : eval (.Call (.Attribute o m apos) (e :: es) [] pos) X.env = (do
      let ov ← eval o X.env
      standAt apos.atName
      let (f, first) ← holding [ov] (getMethod ov m pl)
      callWith pos f first (backTo pos (starEach (e :: es) X.env)) (backToKw pos (keywordEach [] X.env))) := by rfl) :
    PE X (.Call (.Attribute o m apos) (e :: es) [] pos) (tMeth C m sp [] E ta t) := by
  obtain ⟨fd, h1, h2⟩ := F.ok
  exact pe_meth (pl := pl) he c hm h1 hr h2 .nil hx ha hst hpl ht
/-- what a callee may let out leaves this def likewise -/
theorem passX {E : XK} (tk : Takes X (fun cls d _ H => E cls d H)) : Passes (L2.CX X.prog X.w) X E := passes_call tk fun _ _ _ _ h => h
end
end K13
set_option Elab.async false
set_option linter.all false
set_option maxRecDepth 100000
set_option maxHeartbeats 4000000
/-! K13Txt: what the top has written (printed by gen_txt.py); raising Fault. -/
namespace K13
open PySem PySem.Spec PyProof.Rows L2
/-- names that the top binds to objects; built-in names that it leaves -/
def gnames : List Str := [("HandshakerError" : Str), ("Fault" : Str), ("checked" : Str), ("place_of" : Str), ("cell_number" : Str), ("combined" : Str), ("Reader" : Str), ("Outcome" : Str), ("same_outcome" : Str), ("ended" : Str), ("BlockRunner" : Str), ("run_block" : Str), ("_law_mix" : Str), ("_law_numbers" : Str), ("_law_take" : Str), ("_law_number" : Str), ("_law_exp" : Str), ("_law_index" : Str), ("_law_cells" : Str), ("_law_in_range" : Str), ("_law_two" : Str), ("_law_value" : Str), ("_law_place" : Str), ("_law_read" : Str), ("_law_new" : Str), ("_law_body" : Str), ("_law_statement" : Str), ("_law_memory" : Str), ("_law_runs" : Str), ("_law_run_one" : Str), ("_law_chosen" : Str), ("_law_outcome" : Str), ("_law_parts" : Str), ("_law_other" : Str), ("law" : Str)]
def fnames : List Str := [("int" : Str), ("range" : Str), ("len" : Str), ("dict" : Str), ("list" : Str), ("super" : Str)]
def bflds : List Str := [("locals_now" : Str), ("cells" : Str), ("memory" : Str), ("reads" : Str), ("writes" : Str), ("later" : Str)]
def oflds : List Str := [("kind" : Str), ("reads" : Str), ("writes" : Str), ("finals" : Str), ("later" : Str), ("reason" : Str)]
def bmeths : List Str := [("value" : Str), ("read" : Str), ("run" : Str), ("run_one" : Str), ("run_repeat" : Str), ("run_choose" : Str)]
structure Txt (K : PySem.W.Frag) (mg : Str → Option Value) : Prop where
  glo : ∀ x ∈ gnames, mg x = some (.ref (He.ga K x))
  free : ∀ x ∈ fnames, mg x = none
  mv : ∃ t, mg "MOST_VALUE" = some (.int 1000000000 t)
  mc : ∃ t, mg "MOST_COUNT" = some (.int 20 t)
  f_checked : FnP K "checked" "checked" sChecked (He.ga K "checked")
  f_place_of : FnP K "place_of" "place_of" sPlaceOf (He.ga K "place_of")
  f_cell_number : FnP K "cell_number" "cell_number" sCellNo (He.ga K "cell_number")
  f_combined : FnP K "combined" "combined" sCombined (He.ga K "combined")
  f_same_outcome : FnP K "same_outcome" "same_outcome" sSame (He.ga K "same_outcome")
  f_run_block : FnP K "run_block" "run_block" sRunBlock (He.ga K "run_block")
  f_law_mix : FnP K "_law_mix" "_law_mix" sMix (He.ga K "_law_mix")
  f_law_numbers : FnP K "_law_numbers" "_law_numbers" sNumbers (He.ga K "_law_numbers")
  f_law_take : FnP K "_law_take" "_law_take" sTake (He.ga K "_law_take")
  f_law_number : FnP K "_law_number" "_law_number" sNumber (He.ga K "_law_number")
  f_law_exp : FnP K "_law_exp" "_law_exp" sExp (He.ga K "_law_exp")
  f_law_index : FnP K "_law_index" "_law_index" sIndex (He.ga K "_law_index")
  f_law_cells : FnP K "_law_cells" "_law_cells" sCells (He.ga K "_law_cells")
  f_law_in_range : FnP K "_law_in_range" "_law_in_range" sInRange (He.ga K "_law_in_range")
  f_law_two : FnP K "_law_two" "_law_two" sTwo (He.ga K "_law_two")
  f_law_value : FnP K "_law_value" "_law_value" sLValue (He.ga K "_law_value")
  f_law_place : FnP K "_law_place" "_law_place" sPlace (He.ga K "_law_place")
  f_law_read : FnP K "_law_read" "_law_read" sLRead (He.ga K "_law_read")
  f_law_new : FnP K "_law_new" "_law_new" sNew (He.ga K "_law_new")
  f_law_body : FnP K "_law_body" "_law_body" sBody (He.ga K "_law_body")
  f_law_statement : FnP K "_law_statement" "_law_statement" sStatement (He.ga K "_law_statement")
  f_law_memory : FnP K "_law_memory" "_law_memory" sMemory (He.ga K "_law_memory")
  f_law_runs : FnP K "_law_runs" "_law_runs" sRuns (He.ga K "_law_runs")
  f_law_run_one : FnP K "_law_run_one" "_law_run_one" sLRunOne (He.ga K "_law_run_one")
  f_law_chosen : FnP K "_law_chosen" "_law_chosen" sChosen (He.ga K "_law_chosen")
  f_law_outcome : FnP K "_law_outcome" "_law_outcome" sOutcome (He.ga K "_law_outcome")
  f_law_parts : FnP K "_law_parts" "_law_parts" sParts (He.ga K "_law_parts")
  f_law_other : FnP K "_law_other" "_law_other" sOther (He.ga K "_law_other")
  f_law : FnP K "law" "law" sLaw (He.ga K "law")
  m_value : FnP K "value" "Reader.value" sValue (He.ma K (He.ga K "BlockRunner") "value")
  m_read : FnP K "read" "BlockRunner.read" sRead (He.ma K (He.ga K "BlockRunner") "read")
  m_run : FnP K "run" "BlockRunner.run" sRun (He.ma K (He.ga K "BlockRunner") "run")
  m_run_one : FnP K "run_one" "BlockRunner.run_one" sRunOne (He.ma K (He.ga K "BlockRunner") "run_one")
  m_run_repeat : FnP K "run_repeat" "BlockRunner.run_repeat" sRepeat (He.ma K (He.ga K "BlockRunner") "run_repeat")
  m_run_choose : FnP K "run_choose" "BlockRunner.run_choose" sChoose (He.ma K (He.ga K "BlockRunner") "run_choose")
  m_Fault : FnP K "__init__" "Fault.__init__" sFInit (He.ma K (He.ga K "Fault") "__init__")
  m_Reader : FnP K "__init__" "Reader.__init__" sRInit (He.ma K (He.ga K "Reader") "__init__")
  m_Outcome : ∃ fd, FunD K "__init__" "Outcome.__init__" (defArgs sOInit) (defBody sOInit) (defScope sOInit) [] [("reason", .non)] (He.ma K (He.ga K "Outcome") "__init__") fd
  f_ended : ∃ fd, FunD K "ended" "ended" (defArgs sEnded) (defBody sEnded) (defScope sEnded) [.non] [] (He.ga K "ended") fd
  oex : OexC K (He.ga K "Fault")
  xf : XfC K (He.ga K "Fault")
  nF : PySem.W.findIn K (.ref (He.ga K "Fault")) "reason" = some none
  iF : PySem.W.findIn K (.ref (He.ga K "Fault")) "__init__" = some (some (.ref (He.ma K (He.ga K "Fault") "__init__")))
  tF : PySem.W.typeIn K (.ref (He.ma K (He.ga K "Fault") "__init__")) = some (.type "function")
  eF : PySem.W.exmOne K (.ref (He.ga K "Fault")) (.ref (He.ga K "Fault")) = some true
  bC : Cls K (He.ga K "BlockRunner")
  bN : ∀ f ∈ bflds, NoAttr K (He.ga K "BlockRunner") f
  bM : ∀ m ∈ bmeths, Meth K (He.ga K "BlockRunner") m (He.ma K (He.ga K "BlockRunner") m)
  bMk : Mk K (He.ga K "BlockRunner") (He.ma K (He.ga K "BlockRunner") "__init__")
  oC : Cls K (He.ga K "Outcome")
  oN : ∀ f ∈ oflds, NoAttr K (He.ga K "Outcome") f
  oMk : Mk K (He.ga K "Outcome") (He.ma K (He.ga K "Outcome") "__init__")
/-- BlockRunner.__init__ and what its super() leans on -/
structure SupTxt (K : PySem.W.Frag) : Prop where
  fn : ∃ (oc : Value) (od : Option Addr) (kV doc pm : Value) (an : Option Addr) (cda : Addr) (ct : Value) (osl : Array (Option Value)) (cc : Addr) (cl ccl : Value) (cld cdd : Option Addr) (csl ccs : Array (Option Value)) (vs : Array Value) (file : Str) (tf : Tok),
    K.lookup (He.ma K (He.ga K "BlockRunner") "__init__") = some ⟨oc, od, .func (PySem.W.fnX "__init__" "BlockRunner.__init__" (defArgs sBInit) (defBody sBInit) (defScope sBInit) [("__class__", cc)] .none kV doc pm an (.ref cda) ct), osl⟩ ∧ PySem.W.codeIn K (.ref cda) "BlockRunner.__init__" = true ∧
    K.lookup cc = some ⟨cl, cld, .cell (some (.ref (He.ga K "BlockRunner"))), csl⟩ ∧ K.lookup cda = some ⟨ccl, cdd, .fields vs, ccs⟩ ∧ vs[2]? = some (.str file tf) ∧ ((PySem.Challenge.pw_handshaker_k13_whole_blocks.main.file : Str) == file) = true
  hD : ∃ cdD, PySem.W.clsIn K (He.ga K "BlockRunner") = some cdD
  hsub : PySem.W.mroIn K (He.ga K "BlockRunner") (.ref (He.ga K "BlockRunner")) = some true
  hsup : PySem.W.ks_superIn K (He.ga K "BlockRunner") (He.ga K "BlockRunner") "__init__" = some (some (.ref (He.ma K (He.ga K "Reader") "__init__")))
  tR : PySem.W.typeIn K (.ref (He.ma K (He.ga K "Reader") "__init__")) = some (.type "function")
  ho : PySem.W.nsIn K cStatics "thirdparty.any" = some none
section
variable {P : Program} {w : World} {K : PySem.W.Frag} {mg : Str → Option Value} {base : Heap}
/-! ### binding -/
theorem FnP.binds {x qual : Str} {st : Stmt} {f : Addr} {ps : List Str} (F : FnP K x qual st f)
    (h : ∀ (kV doc pm : Value) (an : Option Addr) (cdv ct : Value) (us : List Value), us.length = ps.length → bindArgs (PySem.W.fnOf x qual (defArgs st) (defBody st) (defScope st) .none kV doc pm an cdv ct) ⟨us, []⟩ = pure (ps.zip us)) : ∃ fd, FunD K x qual (defArgs st) (defBody st) (defScope st) [] [] f fd ∧ Binds K fd ps [] := by
  obtain ⟨fd, F⟩ := F
  exact ⟨fd, F, F.bindsN h⟩
/-- a def by its body: nothing is let out -/
theorem FnP.pr {x qual : Str} {st : Stmt} {f : Addr} {N ps : List Str} {k : Nat} {sp : Sp} (F : FnP K x qual st f) (S : FnScope N ps (defScope st))
    (hb : ∀ (kV doc pm : Value) (an : Option Addr) (cdv ct : Value) (us : List Value), us.length = ps.length → bindArgs (PySem.W.fnOf x qual (defArgs st) (defBody st) (defScope st) .none kV doc pm an cdv ct) ⟨us, []⟩ = pure (ps.zip us))
    (len : ∀ vs H Q E, sp vs H Q E → vs.length = ps.length)
    (body : ∀ (cdv : Value) (A : Around) (outer : List Env) (s : Shared) (H : Hp) (vs : List V) (Q : VK) (E : XK), Room k (A.deeper (envOfC qual (defScope st) s.heap.objs.size f cdv)) → sp vs H Q E →
      ∃ t, PSs (cxOf CX0 P w K mg base N qual (defScope st) f cdv A outer s H E).nox (defBody st) t ∧ t { nx := fun _ H' => Q .non H', rt := Q } (start N vs) H) : Pr P w K mg base CX0 (k + 1) f ps sp := by
  obtain ⟨fd, F, b⟩ := F.binds hb
  exact ⟨⟨fd, F.ok S len fun cdv A outer s H vs Q E hr h => (body cdv A outer s H vs Q E hr h).elim fun t z => ⟨t, z.1.nox, z.2⟩, b⟩, F.kp⟩
/-- .. that may let out an error -/
theorem FnP.prX {x qual : Str} {st : Stmt} {f : Addr} {N ps : List Str} {k : Nat} {sp : Sp} (F : FnP K x qual st f) (S : FnScope N ps (defScope st))
    (hb : ∀ (kV doc pm : Value) (an : Option Addr) (cdv ct : Value) (us : List Value), us.length = ps.length → bindArgs (PySem.W.fnOf x qual (defArgs st) (defBody st) (defScope st) .none kV doc pm an cdv ct) ⟨us, []⟩ = pure (ps.zip us))
    (len : ∀ vs H Q E, sp vs H Q E → vs.length = ps.length)
    (body : ∀ (cdv : Value) (A : Around) (outer : List Env) (s : Shared) (H : Hp) (vs : List V) (Q : VK) (E : XK), Room k (A.deeper (envOfC qual (defScope st) s.heap.objs.size f cdv)) → sp vs H Q E →
      ∃ t, PSs (cxOf (L2.CX P w) P w K mg base N qual (defScope st) f cdv A outer s H E) (defBody st) t ∧ t { nx := fun _ H' => Q .non H', rt := Q } (start N vs) H) : Pr P w K mg base (L2.CX P w) (k + 1) f ps sp := by
  obtain ⟨fd, F, b⟩ := F.binds hb
  exact ⟨⟨fd, F.ok S len body, b⟩, F.kp⟩
/-! ### Fault is made and raised -/
abbrev aF (K : PySem.W.Frag) : Addr := He.ga K "Fault"
def spFI (K : PySem.W.Frag) : Sp := fun vs H Q _ => ∃ (a : Addr) (z : Str), vs = [.ref a, .str z] ∧ H a = some (exo a (aF K) none) ∧
  ∀ dx, H dx = none → dx ≠ a → Q .non (upd (upd H dx (exd dx [("reason", .str z)])) a (exo a (aF K) (some dx)))
theorem scFI : FnScope ["self", "reason"] ["self", "reason"] (defScope sFInit) := ⟨rfl, rfl, rfl, by decide +kernel, rfl, by decide +kernel, by decide +kernel⟩
theorem ok_finit (T : Txt K mg) : Pr P w K mg base CX0 1 (He.ma K (aF K) "__init__") ["self", "reason"] (spFI K) := by
  refine T.m_Fault.pr scFI (fun _ _ _ _ _ _ us hl => match us, hl with | [_, _], _ => rfl) (fun vs H Q E h => ?_) (fun cdv A outer s H vs Q E hr h => ?_)
  · obtain ⟨a, z, rfl, _⟩ := h
    rfl
  · obtain ⟨a, z, rfl, ha, k⟩ := h
    refine ⟨_, pss_one (ps_ost (pv 0) (pv 1)), ?_⟩
    exact ⟨_, rfl, _, rfl, a, aF K, rfl, T.oex, T.nF, .inl ⟨ha, fun dx n ne => k dx n ne⟩⟩
def tRaise (K : PySem.W.Frag) (r : Wd) (W : WX) : TS := fun _ σ H => tMkO (aF K) (spFI K) [] (tCons (tC (.str (wdS r))) tNil) σ H fun cls d H' => W cls d σ H'
/-- raise Fault(..) -/
theorem ps_raiseF {X : Cx} {W : WX} {p p1 pos pos2 : Pos} {z : Str} {j : Nat} (r : Wd) (T : Txt X.K X.mg) (hc : X.calm = true) (hr : Room 2 X.A) (tk : Takes X W) (hz : z = wdS r := by rfl) (hg : Gl X "Fault" := by rfl)
    (he : starEach ((.Constant (.str z) j p1) :: []) X.env = (false, eval (.Constant (.str z) j p1) X.env) :: starEach [] X.env := by rfl) (hpl : (backTo pos (starEach [] X.env)).any (·.1) = false := by rfl) :
    PS X (.Raise (some (.Call (.Name "Fault" p) [.Constant (.str z) j p1] [] pos)) none pos2) (tRaise X.K r W) := by
  subst hz
  obtain ⟨fd, h1, h2⟩ := (ok_finit (P := X.prog) (w := X.w) (base := X.base) T).ok
  exact ps_raise hc tk (pmk_oex T.oex T.iF T.tF h1 hr h2 .nil pass0 hg (T.glo _ (by decide +kernel)) (pa_cons pe_str pa_nil) (by decide) he hpl)
theorem raise_rd {r : Wd} {W : WX} {D : Ends} {σ : L2.St} {H : Hp} (h : ErK K (fun cls d H' => W cls d σ H') H r) : tRaise K r W D σ H := by
  refine ⟨(by show 1 ≤ 1000; decide), fun a na => ⟨a, wdS r, rfl, upd_same, fun dx ndx ne => ?_⟩⟩
  have nd : H dx = none := by rw [upd_ne ne] at ndx; exact ndx
  refine ⟨rfl, dx, _, upd_same, (upd_ne ne).trans upd_same, nd, h dx _ (fun b o q => ?_) upd_same⟩
  have nb : b ≠ dx := ne_of_none q nd
  have na2 : b ≠ a := ne_of_none q na
  rw [upd_ne nb, del_ne na2, upd_ne na2, upd_ne nb, upd_ne na2]
  exact q
theorem ErK.mono {E : XK} {H H1 : Hp} {r : Wd} (h : ErK K E H r) (s : Same H H1) : ErK K E H1 r := fun d H' s' q => h d H' (s.trans s') q
end
end K13
set_option Elab.async false
set_option linter.all false
set_option maxRecDepth 100000
set_option maxHeartbeats 4000000
/-! K13P1: checked, place_of, cell_number, combined. -/
namespace K13
open PySem PySem.Spec PyProof.Rows L2
section
variable {P : Program} {w : World} {K : PySem.W.Frag} {mg : Str → Option Value} {base : Heap}
/-! ### checked -/
def spChecked (K : PySem.W.Frag) : Sp := fun vs H Q E => ∃ n : Int, vs = [.int n] ∧ match ckV n with
  | .ok v => Q (.int v) H
  | .error r => ErK K E H r
theorem scChecked : FnScope ["number"] ["number"] (defScope sChecked) := ⟨rfl, rfl, rfl, by decide +kernel, rfl, by decide +kernel, by decide +kernel⟩
theorem ok_checked (T : Txt K mg) : Pr P w K mg base (L2.CX P w) 3 (He.ga K "checked") ["number"] (spChecked K) := by
  refine T.f_checked.prX scChecked (fun _ _ _ _ _ _ us hl => match us, hl with | [_], _ => rfl) (fun vs H Q E h => ?_) (fun cdv A outer s H vs Q E hr h => ?_)
  · obtain ⟨n, rfl, _⟩ := h
    rfl
  · obtain ⟨n, rfl, h⟩ := h
    obtain ⟨tk, mv⟩ := T.mv
    refine ⟨_, pss_cons (ps_if (pt_not (pt_chain op_le op_le (pe_un un_neg (pe_glob (v := .int 1000000000) rfl mv ⟨_, rfl⟩)) (pv 0) (pe_glob (v := .int 1000000000) rfl mv ⟨_, rfl⟩))) (pss_one (ps_raiseF .range T rfl hr (takes_of rfl rfl rfl rfl))) pss_nil)
      (pss_one (ps_ret (pv 0))), ?_⟩
    refine ⟨_, rfl, _, rfl, _, _, rfl, rfl, _, rfl, ?_⟩
    unfold ckV at h
    by_cases c1 : -1000000000 ≤ n
    · refine if_t (decide_eq_true c1) ⟨_, _, rfl, rfl, _, rfl, ?_⟩
      by_cases c2 : n ≤ 1000000000
      · rw [if_pos ⟨c1, c2⟩] at h
        refine if_f (by rw [decide_eq_true c2]; rfl) ?_
        exact ⟨_, rfl, h⟩
      · rw [if_neg fun q => c2 q.2] at h
        refine if_t (by rw [decide_eq_false c2]; rfl) ?_
        exact raise_rd h
    · rw [if_neg fun q => c1 q.1] at h
      refine if_f (decide_eq_false c1) ?_
      refine ⟨_, rfl, if_t rfl ?_⟩
      exact raise_rd h
/-! ### place_of -/
def spPlaceOf (K : PySem.W.Frag) : Sp := fun vs H Q _ => ∃ (a : Addr) (c : Nm), vs = [.ref a, .str (nmS c)] ∧ CellsAt H a ∧ ∀ (p : Addr) (H' : Hp), Same H H' → H' p = some (.tup [.int (firstOf c), .int (sizeOf c)]) → Q (.ref p) H'
def ixOf : Nm → Nat
  | .a => 0 | .b => 1 | .c => 2
def offs : Nat → Int
  | 0 => 0 | 1 => 2 | 2 => 3 | _ => 6
theorem scPlaceOf : FnScope ["cells", "wanted", "first", "name", "size", "value"] ["cells", "wanted"] (defScope sPlaceOf) := ⟨rfl, rfl, rfl, by decide +kernel, rfl, by decide +kernel, by decide +kernel⟩
theorem two_line : 2 ≤ sizeLine := by decide
theorem ok_placeOf (T : Txt K mg) : Pr P w K mg base CX0 1 (He.ga K "place_of") ["cells", "wanted"] (spPlaceOf K) := by
  refine T.f_place_of.pr scPlaceOf (fun _ _ _ _ _ _ us hl => match us, hl with | [_, _], _ => rfl) (fun vs H Q E h => ?_) (fun cdv A outer s H vs Q E hr h => ?_)
  · obtain ⟨a, c, rfl, _⟩ := h
    rfl
  · obtain ⟨a, c, rfl, ⟨t1, t2, t3, hc, h1, h2, h3⟩, k⟩ := h
    refine ⟨_, pss_cons (ps_set (i := 2) scPlaceOf.nd rfl (Or.inl rfl) pe_int)
      (pss_cons (ps_for PassesOwn.never rfl (pi_list (pv 0)) (pg_tup rfl (pgs_cons (pg_name (i := 3) scPlaceOf.nd rfl (Or.inl rfl)) (pgs_cons (pg_name (i := 4) scPlaceOf.nd rfl (Or.inl rfl)) (pgs_cons (pg_name (i := 5) scPlaceOf.nd rfl (Or.inl rfl)) pgs_nil))))
        (pss_cons (ps_if (pt_cmpR op_eq (pv 3) (pv 1) (nomark _)) (pss_one (ps_ret (pe_tup (pa_cons (pv 2) (pa_cons (pv 4) pa_nil))))) pss_nil)
        (pss_one (ps_aug (i := 2) scPlaceOf.nd rfl (Or.inl rfl) (pv 4) ip_add))))
      (pss_one (ps_ret (pe_tup (pa_cons (pv 2) (pa_cons pe_int pa_nil)))))), ?_⟩
    refine ⟨_, rfl, a, rfl, ⟨_, SqL.of hc⟩, for_list (K := K) (a := a) (xs := [.ref t1, .ref t2, .ref t3]) (fun i σ H' => H' = H ∧ i ≤ ixOf c ∧ ∃ v3 v4 v5, σ = [some (.ref a), some (.str (nmS c)), some (.int (offs i)), v3, v4, v5])
      ⟨rfl, Nat.zero_le _, none, none, none, rfl⟩ (fun i σ H' _ ⟨e, _⟩ => by rw [e]; exact SqL.of hc) ?_ ?_⟩
    · rintro i y σ H' hi ⟨rfl, hle, v3, v4, v5, rfl⟩
      match i, hi with
      | 0, hi =>
        cases Option.some.inj hi
        refine ⟨t1, _, rfl, SqT.of h1, rfl, _, _, rfl, _, _, rfl, _, _, rfl, rfl, ?_⟩
        refine ⟨_, rfl, _, rfl, rfl, _, rfl, ?_⟩
        cases c with
        | a => exact st_t (by decide +kernel) ⟨_, rfl, _, rfl, two_line, fun p np => k p _ (sm_upd np _) upd_same⟩
        | b => exact st_f (by decide +kernel) ⟨_, rfl, _, rfl, _, _, rfl, rfl, rfl, by decide, _, _, _, rfl⟩
        | c => exact st_f (by decide +kernel) ⟨_, rfl, _, rfl, _, _, rfl, rfl, rfl, by decide, _, _, _, rfl⟩
      | 1, hi =>
        cases Option.some.inj hi
        refine ⟨t2, _, rfl, SqT.of h2, rfl, _, _, rfl, _, _, rfl, _, _, rfl, rfl, ?_⟩
        refine ⟨_, rfl, _, rfl, rfl, _, rfl, ?_⟩
        cases c with
        | a => exact absurd hle (by decide)
        | b => exact st_t (by decide +kernel) ⟨_, rfl, _, rfl, two_line, fun p np => k p _ (sm_upd np _) upd_same⟩
        | c => exact st_f (by decide +kernel) ⟨_, rfl, _, rfl, _, _, rfl, rfl, rfl, by decide, _, _, _, rfl⟩
      | 2, hi =>
        cases Option.some.inj hi
        refine ⟨t3, _, rfl, SqT.of h3, rfl, _, _, rfl, _, _, rfl, _, _, rfl, rfl, ?_⟩
        refine ⟨_, rfl, _, rfl, rfl, _, rfl, ?_⟩
        cases c with
        | a => exact absurd hle (by decide)
        | b => exact absurd hle (by decide)
        | c => exact st_t (by decide +kernel) ⟨_, rfl, _, rfl, two_line, fun p np => k p _ (sm_upd np _) upd_same⟩
      | n + 3, hi => cases hi
    · rintro σ H' ⟨_, hle, _⟩
      have hle : 3 ≤ ixOf c := hle
      cases c <;> exact absurd hle (by decide)
/-! ### cell_number -/
def spCellNo (K : PySem.W.Frag) : Sp := fun vs H Q E => ∃ (a : Addr) (c : Nm) (i : Int), vs = [.ref a, .str (nmS c), .int i] ∧ CellsAt H a ∧
  (0 ≤ i ∧ i < sizeOf c → ∀ H', Same H H' → Q (.int (firstOf c + i)) H') ∧ (¬ (0 ≤ i ∧ i < sizeOf c) → ErK K E H .index)
theorem scCellNo : FnScope ["cells", "name", "index", "first", "size"] ["cells", "name", "index"] (defScope sCellNo) := ⟨rfl, rfl, rfl, by decide +kernel, rfl, by decide +kernel, by decide +kernel⟩
theorem ok_cellNo (T : Txt K mg) : Pr P w K mg base (L2.CX P w) 3 (He.ga K "cell_number") ["cells", "name", "index"] (spCellNo K) := by
  refine T.f_cell_number.prX scCellNo (fun _ _ _ _ _ _ us hl => match us, hl with | [_, _, _], _ => rfl) (fun vs H Q E h => ?_) (fun cdv A outer s H vs Q E hr h => ?_)
  · obtain ⟨a, c, i, rfl, _⟩ := h
    rfl
  · obtain ⟨a, c, i, rfl, hc, hk, he⟩ := h
    refine ⟨_, pss_cons (ps_asg (pe_callP (ok_placeOf T) (hr.mono (by decide)) rfl (T.glo _ (by decide +kernel)) pass0 (pa_cons (pv 0) (pa_cons (pv 1) pa_nil))) (pg_tup rfl (pgs_cons (pg_name (i := 3) scCellNo.nd rfl (Or.inl rfl)) (pgs_cons (pg_name (i := 4) scCellNo.nd rfl (Or.inl rfl)) pgs_nil))))
      (pss_cons (ps_if (pt_not (pt_chain op_le op_lt pe_int (pv 2) (pv 4))) (pss_one (ps_raiseF .index T rfl hr (takes_of rfl rfl rfl rfl))) pss_nil)
      (pss_one (ps_ret (pe_op op_add (pv 3) (pv 2))))), ?_⟩
    refine ⟨_, rfl, _, rfl, a, c, rfl, hc, fun p H1 s1 hp => ?_⟩
    refine ⟨p, _, rfl, SqT.of hp, rfl, _, _, rfl, _, _, rfl, rfl, ?_⟩
    refine ⟨_, rfl, _, _, rfl, rfl, _, rfl, ?_⟩
    by_cases c1 : 0 ≤ i
    · refine if_t (decide_eq_true c1) ⟨_, rfl, _, _, rfl, rfl, _, rfl, ?_⟩
      by_cases c2 : i < sizeOf c
      · refine if_f (by rw [decide_eq_true c2]; rfl) ?_
        exact ⟨_, rfl, _, rfl, _, _, rfl, rfl, hk ⟨c1, c2⟩ _ s1⟩
      · refine if_t (by rw [decide_eq_false c2]; rfl) ?_
        exact raise_rd ((he fun q => c2 q.2).mono s1)
    · refine if_f (decide_eq_false c1) ?_
      refine ⟨_, rfl, if_t rfl ?_⟩
      exact raise_rd ((he fun q => c1 q.1).mono s1)
/-! ### combined -/
/-- an operation that is no and, no or -/
def isAr : Bk → Bool
  | .and => false | .or => false | _ => true
def spCombined (K : PySem.W.Frag) : Sp := fun vs H Q E => ∃ (k : Bk) (v z : Int), vs = [.str (bkS k), .int v, .int z] ∧ isAr k = true ∧ Ok1 v ∧ Ok1 z ∧ match twoV k v z with
  | .ok v => ∀ H', Same H H' → Q (.int v) H'
  | .error r => ErK K E H r
theorem scCombined : FnScope ["kind", "first", "second", "quotient"] ["kind", "first", "second"] (defScope sCombined) := ⟨rfl, rfl, rfl, by decide +kernel, rfl, by decide +kernel, by decide +kernel⟩
theorem b2_if (p : Prop) [Decidable p] : (if decide p = true then (1 : Int) else 0) = if p then 1 else 0 := by
  by_cases h : p
  · rw [if_pos h, if_pos (decide_eq_true h)]
  · rw [if_neg h, if_neg fun q => h (of_decide_eq_true q)]
theorem ck_rd {n : Int} {H H1 : Hp} {Q : VK} {E : XK} (s : Same H H1) (h : match ckV n with
  | .ok v => ∀ H', Same H H' → Q (.int v) H'
  | .error r => ErK K E H r) : spChecked K [.int n] H1 Q E := by
  refine ⟨n, rfl, ?_⟩
  revert h
  cases ckV n with
  | ok v => exact fun h => h _ s
  | error r => exact fun h => h.mono s
theorem mul_ok {v z : Int} (h : Ok1 v) : CMul v z := .inl ⟨by have := h.1; omega, by have := h.2; omega⟩
theorem ok_combined (T : Txt K mg) : Pr P w K mg base (L2.CX P w) 4 (He.ga K "combined") ["kind", "first", "second"] (spCombined K) := by
  refine T.f_combined.prX scCombined (fun _ _ _ _ _ _ us hl => match us, hl with | [_, _, _], _ => rfl) (fun vs H Q E h => ?_) (fun cdv A outer s H vs Q E hr h => ?_)
  · obtain ⟨k, v, z, rfl, _⟩ := h
    rfl
  · obtain ⟨k, v, z, rfl, ha, ov, oz, h⟩ := h
    refine ⟨_, pss_cons (ps_if (pt_cmpR op_eq (pv 0) pe_str (nomark _)) (pss_one (ps_ret (pe_callP (ok_checked T) hr rfl (T.glo _ (by decide +kernel)) (passX (takes_of rfl rfl rfl rfl)) (pa_cons (pe_op op_add (pv 1) (pv 2)) pa_nil)))) pss_nil)
      (pss_cons (ps_if (pt_cmpR op_eq (pv 0) pe_str (nomark _)) (pss_one (ps_ret (pe_callP (ok_checked T) hr rfl (T.glo _ (by decide +kernel)) (passX (takes_of rfl rfl rfl rfl)) (pa_cons (pe_op op_sub (pv 1) (pv 2)) pa_nil)))) pss_nil)
      (pss_cons (ps_if (pt_cmpR op_eq (pv 0) pe_str (nomark _)) (pss_one (ps_ret (pe_callP (ok_checked T) hr rfl (T.glo _ (by decide +kernel)) (passX (takes_of rfl rfl rfl rfl)) (pa_cons (pe_op op_mul (pv 1) (pv 2)) pa_nil)))) pss_nil)
      (pss_cons (ps_if (pt_cmpR op_in_seq (pv 0) (pe_tup (pa_cons pe_str (pa_cons pe_str pa_nil))) rfl)
        (pss_cons (ps_if (pt_cmpR op_eq (pv 2) pe_int (nomark _)) (pss_one (ps_raiseF .zero T rfl (hr.mono (by decide)) (takes_of rfl rfl rfl rfl))) pss_nil)
        (pss_cons (ps_set (i := 3) scCombined.nd rfl (Or.inl rfl) (pe_op op_fdivN (pv 1) (pv 2)))
        (pss_one (ps_ret (pe_ifExp (pt_cmpR op_eq (pv 0) pe_str (nomark _)) (pe_callP (ok_checked T) hr rfl (T.glo _ (by decide +kernel)) (passX (takes_of rfl rfl rfl rfl)) (pa_cons (pv 3) pa_nil)) (pe_callP (ok_checked T) hr rfl (T.glo _ (by decide +kernel)) (passX (takes_of rfl rfl rfl rfl)) (pa_cons (pe_op op_sub (pv 1) (pe_op op_mul (pv 2) (pv 3))) pa_nil))))))) pss_nil)
      (pss_cons (ps_if (pt_cmpR op_eq (pv 0) pe_str (nomark _)) (pss_one (ps_ret (pe_callTy call_int1 rfl (T.free _ (by decide +kernel)) (by decide +kernel) (pa_cons (pe_cmpR op_lt (pv 1) (pv 2) (nomark _)) pa_nil)))) pss_nil)
      (pss_cons (ps_if (pt_cmpR op_eq (pv 0) pe_str (nomark _)) (pss_one (ps_ret (pe_callTy call_int1 rfl (T.free _ (by decide +kernel)) (by decide +kernel) (pa_cons (pe_cmpR op_le (pv 1) (pv 2) (nomark _)) pa_nil)))) pss_nil)
      (pss_one (ps_ret (pe_callTy call_int1 rfl (T.free _ (by decide +kernel)) (by decide +kernel) (pa_cons (pe_cmpR op_eq (pv 1) (pv 2) (nomark _)) pa_nil))))))))), ?_⟩
    have div : z ≠ 0 → CDivN v z := fun hz => ⟨hz, by have := oz.1; have := oz.2; omega⟩
    have n0 : ∀ {A B : Prop}, (z = 0 → A) → (z ≠ 0 → B) → if decide (V.int z = V.int 0) = true then A else B := fun h1 h2 => by
      by_cases q : z = 0
      · exact if_t (decide_eq_true (congrArg V.int q)) (h1 q)
      · exact if_f (decide_eq_false fun e => q (V.int.inj e)) (h2 q)
    refine ⟨_, rfl, rfl, _, rfl, ?_⟩
    cases k with
    | plus => exact st_t (by decide +kernel) ⟨_, rfl, _, rfl, _, _, rfl, rfl, ck_rd (.refl _) h⟩
    | and => cases ha
    | or => cases ha
    | minus => exact st_f (by decide +kernel) ⟨_, rfl, rfl, _, rfl, st_t (by decide +kernel) ⟨_, rfl, _, rfl, _, _, rfl, rfl, ck_rd (.refl _) h⟩⟩
    | times => exact st_f (by decide +kernel) ⟨_, rfl, rfl, _, rfl, st_f (by decide +kernel) ⟨_, rfl, rfl, _, rfl, st_t (by decide +kernel) ⟨_, rfl, _, rfl, _, _, rfl, rfl, mul_ok ov, ck_rd (.refl _) h⟩⟩⟩
    | over =>
      refine st_f (by decide +kernel) ⟨_, rfl, rfl, _, rfl, st_f (by decide +kernel) ⟨_, rfl, rfl, _, rfl, st_f (by decide +kernel) ⟨_, rfl, two_line, fun p np => ?_⟩⟩⟩
      refine ⟨p, _, rfl, .inr (SqT.of upd_same), rfl, rfl, _, rfl, if_t (by decide +kernel) ?_⟩
      refine ⟨_, rfl, rfl, _, rfl, n0 (fun q => ?_) fun q => ?_⟩
      · have e : twoV .over v z = .error .zero := if_pos q
        rw [e] at h
        exact raise_rd (h.mono (sm_upd np _))
      · have e : twoV .over v z = ckV (v.fdiv z) := if_neg q
        rw [e] at h
        refine ⟨_, rfl, _, rfl, _, _, rfl, rfl, div q, ?_⟩
        exact ⟨_, rfl, rfl, _, rfl, st_t (by decide +kernel) ⟨_, rfl, ck_rd (sm_upd np _) h⟩⟩
    | rest =>
      refine st_f (by decide +kernel) ⟨_, rfl, rfl, _, rfl, st_f (by decide +kernel) ⟨_, rfl, rfl, _, rfl, st_f (by decide +kernel) ⟨_, rfl, two_line, fun p np => ?_⟩⟩⟩
      refine ⟨p, _, rfl, .inr (SqT.of upd_same), rfl, rfl, _, rfl, if_t (by decide +kernel) ?_⟩
      refine ⟨_, rfl, rfl, _, rfl, n0 (fun q => ?_) fun q => ?_⟩
      · have e : twoV .rest v z = .error .zero := if_pos q
        rw [e] at h
        exact raise_rd (h.mono (sm_upd np _))
      · have e : twoV .rest v z = ckV (v - z * v.fdiv z) := if_neg q
        rw [e] at h
        refine ⟨_, rfl, _, rfl, _, _, rfl, rfl, div q, ?_⟩
        exact ⟨_, rfl, rfl, _, rfl, st_f (by decide +kernel) ⟨_, rfl, _, rfl, _, rfl, _, _, rfl, rfl, mul_ok oz, _, _, rfl, rfl, ck_rd (sm_upd np _) h⟩⟩
    | _ =>
      refine st_f (by decide +kernel) ⟨_, rfl, rfl, _, rfl, st_f (by decide +kernel) ⟨_, rfl, rfl, _, rfl, st_f (by decide +kernel) ⟨_, rfl, two_line, fun p np => ?_⟩⟩⟩
      refine ⟨p, _, rfl, .inr (SqT.of upd_same), rfl, rfl, _, rfl, if_f (by decide +kernel) ⟨_, rfl, rfl, _, rfl, ?_⟩⟩
      have h := h _ (sm_upd np (.tup [.str "over", .str "rest"]))
      rw [← b2_if] at h
      first
        | exact st_t (by decide +kernel) ⟨_, rfl, _, rfl, _, _, rfl, rfl, .inr ⟨_, rfl, h⟩⟩
        | exact st_f (by decide +kernel) ⟨_, rfl, rfl, _, rfl, st_t (by decide +kernel) ⟨_, rfl, _, rfl, _, _, rfl, rfl, .inr ⟨_, rfl, h⟩⟩⟩
        | exact st_f (by decide +kernel) ⟨_, rfl, rfl, _, rfl, st_f (by decide +kernel) ⟨_, rfl, _, rfl, rfl, .inr ⟨_, rfl, by rw [dec_int]; rw [Bool.beq_eq_decide_eq]; exact h⟩⟩⟩
end
end K13
set_option Elab.async false
set_option linter.all false
set_option maxRecDepth 100000
set_option maxHeartbeats 4000000
/-! K13P2: the program's runner in the heap; read and value. -/
namespace K13
open PySem PySem.Spec PyProof.Rows L2
abbrev aB (K : PySem.W.Frag) : Addr := He.ga K "BlockRunner"
/-- the runner's fields, in the order in which they are stored -/
def bf (dl ac am dr dw al : Addr) : List (Str × V) := [("locals_now", .ref dl), ("cells", .ref ac), ("memory", .ref am), ("reads", .ref dr), ("writes", .ref dw), ("later", .ref al)]
theorem lk_here {k : Str} {v : V} {r : List (Str × V)} : List.lookup k ((k, v) :: r) = some v := by
  have e : (k == k) = true := beq_self_eq_true k
  simp only [List.lookup, e]
theorem lk_past {k g : Str} {v : V} {r : List (Str × V)} (h : (k == g) = false) : List.lookup k ((g, v) :: r) = List.lookup k r := by
  simp only [List.lookup, h]
theorem put_here {f : Str} {v x : V} {r : List (Str × V)} : putF f v ((f, x) :: r) = (f, v) :: r := if_pos rfl
theorem put_past {f g : Str} {v x : V} {r : List (Str × V)} (h : ¬ g = f) : putF f v ((g, x) :: r) = (g, x) :: putF f v r := if_neg h
section
variable {dl ac am dr dw al : Addr}
theorem bf_locals : (bf dl ac am dr dw al).lookup ("locals_now" : Str) = some (.ref dl) := lk_here
theorem bf_cells : (bf dl ac am dr dw al).lookup ("cells" : Str) = some (.ref ac) := (lk_past (by decide +kernel)).trans lk_here
theorem bf_memory : (bf dl ac am dr dw al).lookup ("memory" : Str) = some (.ref am) := (lk_past (by decide +kernel)).trans ((lk_past (by decide +kernel)).trans lk_here)
theorem bf_reads : (bf dl ac am dr dw al).lookup ("reads" : Str) = some (.ref dr) := (lk_past (by decide +kernel)).trans ((lk_past (by decide +kernel)).trans ((lk_past (by decide +kernel)).trans lk_here))
theorem bf_writes : (bf dl ac am dr dw al).lookup ("writes" : Str) = some (.ref dw) := (lk_past (by decide +kernel)).trans ((lk_past (by decide +kernel)).trans ((lk_past (by decide +kernel)).trans ((lk_past (by decide +kernel)).trans lk_here)))
theorem bf_later : (bf dl ac am dr dw al).lookup ("later" : Str) = some (.ref al) := (lk_past (by decide +kernel)).trans ((lk_past (by decide +kernel)).trans ((lk_past (by decide +kernel)).trans ((lk_past (by decide +kernel)).trans ((lk_past (by decide +kernel)).trans lk_here))))
theorem bf_none {m : Str} (h : (["locals_now", "cells", "memory", "reads", "writes", "later"] : List Str).all (fun g => !(m == g)) = true) : (bf dl ac am dr dw al).lookup m = none := by
  simp only [List.all_cons, List.all_nil, Bool.and_true, Bool.and_eq_true, Bool.not_eq_true'] at h
  obtain ⟨h1, h2, h3, h4, h5, h6⟩ := h
  exact (lk_past h1).trans ((lk_past h2).trans ((lk_past h3).trans ((lk_past h4).trans ((lk_past h5).trans ((lk_past h6).trans rfl)))))
theorem bf_put_locals {d : Addr} : putF "locals_now" (.ref d) (bf dl ac am dr dw al) = bf d ac am dr dw al := put_here
theorem bf_put_writes {d : Addr} : putF "writes" (.ref d) (bf dl ac am dr dw al) = bf dl ac am dr d al :=
  (put_past (by decide +kernel)).trans (congrArg _ ((put_past (by decide +kernel)).trans (congrArg _ ((put_past (by decide +kernel)).trans (congrArg _ ((put_past (by decide +kernel)).trans (congrArg _ put_here)))))))
theorem bf_put_later {d : Addr} : putF "later" (.ref d) (bf dl ac am dr dw al) = bf dl ac am dr dw d :=
  (put_past (by decide +kernel)).trans (congrArg _ ((put_past (by decide +kernel)).trans (congrArg _ ((put_past (by decide +kernel)).trans (congrArg _ ((put_past (by decide +kernel)).trans (congrArg _ ((put_past (by decide +kernel)).trans (congrArg _ put_here)))))))))
end
/-- what stays while a runner is at work: the ground, its addresses, the memory -/
structure Fx where
  G : Hp
  self : Addr
  ac : Addr
  am : Addr
  dr : Addr
  mem : List Int
structure FxOk (F : Fx) : Prop where
  cells : CellsAt F.G F.ac
  memo : F.G F.am = some (.lst (F.mem.map V.int))
  mok : MemOk F.mem
  gs : F.G F.self = none
  gr : F.G F.dr = none
/-- where the locals, the writes, and what is said later stand -/
structure Ad where
  dl : Addr
  dw : Addr
  al : Addr
/-- the runner at work: st -/
structure RunAt (K : PySem.W.Frag) (F : Fx) (A : Ad) (H : Hp) (st : Stt) : Prop where
  same : Same F.G H
  good : Good st
  at_ : ∃ dx, H F.self = some (.ins (aB K) dx (bf A.dl F.ac F.am F.dr A.dw A.al)) ∧ H A.dl = some (.dK (locK st.x st.y)) ∧ H F.dr = some (.dK (kvI st.reads)) ∧ H A.dw = some (.dK (kvI st.writes)) ∧ H A.al = some (.lst (st.later.map V.int)) ∧
    F.G A.dl = none ∧ F.G A.dw = none ∧ F.G A.al = none ∧ A.dl ≠ F.dr ∧ A.dl ≠ A.dw ∧ F.dr ≠ A.dw
theorem RunAt.keep {K : PySem.W.Frag} {F : Fx} {A : Ad} {H H' : Hp} {st : Stt} (R : RunAt K F A H st) (s : Same H H') : RunAt K F A H' st := by
  obtain ⟨dx, h1, h2, h3, h4, h5, r⟩ := R.at_
  exact ⟨R.same.trans s, R.good, dx, s _ _ h1, s _ _ h2, s _ _ h3, s _ _ h4, s _ _ h5, r⟩
/-- an error flies, the runner at st -/
def ErR (K : PySem.W.Frag) (F : Fx) (E : XK) (r : Wd) (st : Stt) : Prop := ∀ (A : Ad) (d : Addr) (H' : Hp), RunAt K F A H' st → H' d = some (.xd [("reason", .str (wdS r))]) → E (.ref (aF K)) (some d) H'
theorem ErR.er {K : PySem.W.Frag} {F : Fx} {A : Ad} {E : XK} {r : Wd} {st : Stt} {H : Hp} (h : ErR K F E r st) (R : RunAt K F A H st) : ErK K E H r := fun d H' s q => h A d H' (R.keep s) q
def RP (K : PySem.W.Frag) (F : Fx) (A : Ad) (Q : VK) (E : XK) : Rs → Prop
  | .ok z st => ∀ H', RunAt K F A H' st → Q (.int z) H'
  | .er r st => ErR K F E r st
section
variable {P : Program} {w : World} {K : PySem.W.Frag} {mg : Str → Option Value} {base : Heap}
theorem ck_rdR {F : Fx} {A : Ad} {n : Int} {H : Hp} {st : Stt} {Q : VK} {E : XK} (R : RunAt K F A H st) (h : RP K F A Q E (ck n st)) : spChecked K [.int n] H Q E := by
  refine ⟨n, rfl, ?_⟩
  unfold ck at h
  revert h
  cases ckV n with
  | ok v => exact fun h => h _ R
  | error r => exact fun h => h.er R
/-! ### read -/
def rdR (mem : List Int) (c : Nm) (i : Int) (st : Stt) : Rs := if 0 ≤ i ∧ i < sizeOf c then rdC mem (firstOf c + i) st else .er .index st
def spRead (K : PySem.W.Frag) : Sp := fun vs H Q E => ∃ (F : Fx) (A : Ad) (st : Stt) (c : Nm) (i : Int), vs = [.ref F.self, .str (nmS c), .int i] ∧ FxOk F ∧ RunAt K F A H st ∧ RP K F A Q E (rdR F.mem c i st)
theorem scRead : FnScope ["self", "name", "index", "number"] ["self", "name", "index"] (defScope sRead) := ⟨rfl, rfl, rfl, by decide +kernel, rfl, by decide +kernel, by decide +kernel⟩
theorem mem_at {mem : List Int} (m : MemOk mem) {k : Int} (h0 : 0 ≤ k) (h6 : k < 6) : atI (mem.map V.int) k = some (.int (mem.getD k.toNat 0)) := by
  have hl : k.toNat < mem.length := by rw [m.len]; omega
  refine at_of (j := k.toNat) (by omega) ?_
  rw [List.getElem?_map, List.getD_eq_getElem?_getD, List.getElem?_eq_getElem hl]
  rfl
theorem ok_read (T : Txt K mg) : Pr P w K mg base (L2.CX P w) 4 (He.ma K (aB K) "read") ["self", "name", "index"] (spRead K) := by
  refine T.m_read.prX scRead (fun _ _ _ _ _ _ us hl => match us, hl with | [_, _, _], _ => rfl) (fun vs H Q E h => ?_) (fun cdv A outer s H vs Q E hr h => ?_)
  · obtain ⟨F, A1, st, c, i, rfl, _⟩ := h
    rfl
  · obtain ⟨F, ⟨dl, dw, al⟩, st, c, i, rfl, fo, R, h⟩ := h
    have hu := hu_of hr
    refine ⟨_, pss_cons (ps_set (i := 3) scRead.nd rfl (Or.inl rfl) (pe_callP (ok_cellNo T) hr rfl (T.glo _ (by decide +kernel)) (passX (takes_of rfl rfl rfl rfl)) (pa_cons (pe_fld (pv 0) rfl) (pa_cons (pv 1) (pa_cons (pv 2) pa_nil)))))
      (pss_cons (ps_if (pt_cmp (pc_din hu (pv 3) (pe_fld (pv 0) rfl))) (pss_one (ps_ret (pe_dget hu (pe_fld (pv 0) rfl) (pv 3) (fun _ _ => rfl)))) pss_nil)
      (pss_cons (ps_dput hu (pe_fld (pv 0) rfl) (pv 3) (pe_ix ix_list (pe_fld (pv 0) rfl) (pv 3) (fun _ _ => rfl)) rfl)
      (pss_one (ps_ret (pe_ix ix_list (pe_fld (pv 0) rfl) (pv 3) (fun _ _ => rfl)))))), ?_⟩
    obtain ⟨dx, h1, h2, h3, h4, h5, g1, g2, g3, n1, n2, n3⟩ := R.at_
    dsimp only at h1 h2 h3 h4 h5 g1 g2 g3 n1 n2 n3
    have nC := T.bN "cells" (by decide +kernel)
    have nW := T.bN "writes" (by decide +kernel)
    have nR := T.bN "reads" (by decide +kernel)
    have nM := T.bN "memory" (by decide +kernel)
    refine ⟨_, rfl, F.self, _, dx, _, _, rfl, h1, T.bC, nC, bf_cells, _, rfl, _, rfl, F.ac, c, i, rfl, fo.cells.mono R.same, fun hk H1 s1 => ?_, fun hk => ?_⟩
    · unfold rdR at h
      rw [if_pos hk] at h
      obtain ⟨k0, k6⟩ := first_size c hk.1 hk.2
      have m1 := mem_at fo.mok k0 k6
      have R1 := R.keep s1
      refine ⟨_, rfl, _, rfl, F.self, _, dx, _, _, rfl, s1 _ _ h1, T.bC, nW, bf_writes, dw, _, rfl, DGet.k (k := Sum.inl (firstOf c + i)) (s1 _ _ h4), _, rfl, ?_⟩
      unfold rdC at h
      rw [valV_kv]
      cases e : lookI st.writes (firstOf c + i) with
      | some z =>
        rw [e] at h
        refine if_t rfl ?_
        refine ⟨_, rfl, F.self, _, dx, _, _, rfl, s1 _ _ h1, T.bC, nW, bf_writes, _, rfl, dw, .int z, rfl, ?_, h _ R1⟩
        have q := DGet.k (k := (Sum.inl (firstOf c + i) : Key)) (s1 _ _ h4)
        rw [valV_kv, e] at q
        exact q
      | none =>
        rw [e] at h
        refine if_f rfl ?_
        refine ⟨_, rfl, F.self, _, dx, _, _, rfl, s1 _ _ h1, T.bC, nM, bf_memory, _, rfl, F.am, _, _, _, rfl, rfl, SqL.of (R1.same _ _ fo.memo), m1, ?_⟩
        refine ⟨_, rfl, F.self, _, dx, _, _, rfl, s1 _ _ h1, T.bC, nR, bf_reads, _, rfl, F.dr, _, rfl, DPut.k (k := Sum.inl (firstOf c + i)) (s1 _ _ h3) (kvI_line R.good.r), ?_⟩
        have ns : F.self ≠ F.dr := ne_of h1 h3 (by intro z; cases z)
        have nl : al ≠ F.dr := ne_of h5 h3 (by intro z; cases z)
        have s2 : Same F.G (upd H1 F.dr (.dK (putK (kvI st.reads) (Sum.inl (firstOf c + i)) (.int (F.mem.getD (firstOf c + i).toNat 0))))) := sm_put R1.same fo.gr _
        refine ⟨_, rfl, F.self, _, dx, _, _, rfl, (by rw [upd_ne ns]; exact s1 _ _ h1), T.bC, nM, bf_memory, _, rfl, F.am, _, _, _, rfl, rfl, SqL.of (s2 _ _ fo.memo), m1, ?_⟩
        refine h _ ⟨s2, ⟨R.good.x, R.good.y, R.good.r.put k0 k6 (getD_ok fo.mok _ (by omega)), R.good.w⟩, dx, ?_, ?_, ?_, ?_, ?_, g1, g2, g3, n1, n2, n3⟩
        · rw [upd_ne ns]; exact s1 _ _ h1
        · rw [upd_ne n1]; exact s1 _ _ h2
        · rw [putK_kv]; exact upd_same
        · rw [upd_ne (Ne.symm n3)]; exact s1 _ _ h4
        · rw [upd_ne nl]; exact s1 _ _ h5
    · unfold rdR at h
      rw [if_neg hk] at h
      exact h.er R
/-! ### value -/
/-- n: how deep expressions are allowed -/
def spValue (K : PySem.W.Frag) (n : Nat) : Sp := fun vs H Q E => ∃ (F : Fx) (A : Ad) (st : Stt) (e : Ex) (v : V), vs = [.ref F.self, v] ∧ FxOk F ∧ RunAt K F A H st ∧ ExAt F.G e v ∧ exD e < n ∧ RP K F A Q E (evE F.mem e st)
theorem scValue : FnScope ["self", "expression", "kind", "first"] ["self", "expression"] (defScope sValue) := ⟨rfl, rfl, rfl, by decide +kernel, rfl, by decide +kernel, by decide +kernel⟩
theorem bind2 {x qual : Str} {st : Stmt} {f : Addr} {a b : Str} (F : FnP K x qual st f)
    (h : ∀ (kV doc pm : Value) (an : Option Addr) (cdv ct : Value) (us : List Value), us.length = [a, b].length → bindArgs (PySem.W.fnOf x qual (defArgs st) (defBody st) (defScope st) .none kV doc pm an cdv ct) ⟨us, []⟩ = pure ([a, b].zip us)) {CX : CXT} {k : Nat} {sp : Sp} (no : ∀ vs H Q E, ¬ sp vs H Q E) : Pr P w K mg base CX k f [a, b] sp := by
  obtain ⟨fd, F, b⟩ := F.binds h
  exact ⟨⟨fd, ⟨fun vs H Q E h => absurd h (no vs H Q E), fun A outer s H args us vs Q E _ _ _ _ h => absurd h (no vs H Q E)⟩, b⟩, F.kp⟩
theorem a0 {α : Type} {x : α} {r : List α} : atI (x :: r) 0 = some x := at_of' rfl
where at_of' {α : Type} {xs : List α} {v : α} (h : xs[0]? = some v) : atI xs 0 = some v := atI_nat (j := 0) h
theorem a1 {α : Type} {x y : α} {r : List α} : atI (x :: y :: r) 1 = some y := atI_nat (j := 1) rfl
theorem a2 {α : Type} {x y z : α} {r : List α} : atI (x :: y :: z :: r) 2 = some z := atI_nat (j := 2) rfl
theorem a3 {α : Type} {x y z u : α} {r : List α} : atI (x :: y :: z :: u :: r) 3 = some u := atI_nat (j := 3) rfl
/-- a result, and what is done with it -/
def Rs.bd (a : Rs) (f : Int → Stt → Rs) : Rs := match a with
  | .er r s => .er r s
  | .ok v s => f v s
theorem ev_cell (mem : List Int) (c : Nm) (i : Ex) (st : Stt) : evE mem (.cell c i) st = (evE mem i st).bd (rdR mem c) := by
  rw [evE]
  cases evE mem i st <;> rfl
theorem ev_neg (mem : List Int) (a : Ex) (st : Stt) : evE mem (.neg a) st = (evE mem a st).bd fun v s => .ok (-v) s := by
  rw [evE]
  cases evE mem a st <;> rfl
theorem ev_no (mem : List Int) (a : Ex) (st : Stt) : evE mem (.no a) st = (evE mem a st).bd fun v s => .ok (if v = 0 then 1 else 0) s := by
  rw [evE]
  cases evE mem a st <;> rfl
theorem ev_bin (mem : List Int) (k : Bk) (a b : Ex) (st : Stt) : evE mem (.bin k a b) st = (evE mem a st).bd fun v s => binB k v (evE mem b) s := by
  rw [evE]
  cases evE mem a st <;> rfl
theorem tf_bd (r : Rs) : tf r = r.bd fun w s => .ok (if w = 0 then 0 else 1) s := by cases r <;> rfl
theorem binB_ar {k : Bk} (h : isAr k = true) (v : Int) (f : Stt → Rs) (s : Stt) : binB k v f s = (f s).bd fun w s => two k v w s := by
  cases k <;> first | (cases h; done) | (unfold binB; cases f s <;> rfl)
/-- behind a first part: what comes of it -/
theorem RP.step {F : Fx} {A : Ad} {a : Rs} {st : Stt} {Q Q' : VK} {E : XK} {f : Int → Stt → Rs} (g : RGood st a) (h : RP K F A Q E (a.bd f))
    (k : ∀ v s1 H', Ok1 v → RunAt K F A H' s1 → RP K F A Q E (f v s1) → Q' (.int v) H') : RP K F A Q' E a := by
  cases a with
  | er r s1 => exact h
  | ok v s1 => exact fun H' R => k v s1 H' g.1 R h
end
end K13
set_option Elab.async false
set_option linter.all false
set_option maxRecDepth 100000
set_option maxHeartbeats 4000000
/-! K13P3: value, by the depth of expressions. -/
namespace K13
open PySem PySem.Spec PyProof.Rows L2
section
variable {P : Program} {w : World} {K : PySem.W.Frag} {mg : Str → Option Value} {base : Heap}
theorem bkN {k : Bk} (h : isAr k = true) {s : Str} (hs : s ∈ (["number", "local", "cell", "negative", "not", "and", "or"] : List Str)) : (bkS k == s) = false := by
  have z : ((["number", "local", "cell", "negative", "not", "and", "or"] : List Str).all fun s => !(bkS k == s)) = true := by
    cases k <;> first | (cases h; done) | decide +kernel
  have q := List.all_eq_true.mp z s hs
  simpa using q
theorem n0 {A B : Prop} {z : Int} (h1 : z = 0 → A) (h2 : z ≠ 0 → B) : if decide (V.int z = V.int 0) = true then A else B := by
  by_cases q : z = 0
  · exact if_t (decide_eq_true (congrArg V.int q)) (h1 q)
  · exact if_f (decide_eq_false fun e => q (V.int.inj e)) (h2 q)
theorem n1 {A B : Prop} {z : Int} (h1 : z = 0 → B) (h2 : z ≠ 0 → A) : if (!decide (V.int z = V.int 0)) = true then A else B := by
  by_cases q : z = 0
  · exact if_f (by rw [decide_eq_true (congrArg V.int q)]; rfl) (h1 q)
  · exact if_t (by rw [decide_eq_false fun e => q (V.int.inj e)]; rfl) (h2 q)
theorem b0 (z : Int) : (if decide (V.int z = V.int 0) then (1 : Int) else 0) = if z = 0 then 1 else 0 := by
  by_cases q : z = 0
  · rw [if_pos (decide_eq_true (congrArg V.int q)), if_pos q]
  · rw [if_neg (by rw [decide_eq_false fun e => q (V.int.inj e)]; decide), if_neg q]
theorem b1 (z : Int) : (if (!decide (V.int z = V.int 0)) then (1 : Int) else 0) = if z = 0 then 0 else 1 := by
  by_cases q : z = 0
  · rw [if_neg (by rw [decide_eq_true (congrArg V.int q)]; decide), if_pos q]
  · rw [if_pos (by rw [decide_eq_false fun e => q (V.int.inj e)]; rfl), if_neg q]
theorem ok_value_step (T : Txt K mg) {n : Nat} (IH : Pr P w K mg base (L2.CX P w) (n + 4) (He.ma K (aB K) "value") ["self", "expression"] (spValue K n)) :
    Pr P w K mg base (L2.CX P w) (n + 5) (He.ma K (aB K) "value") ["self", "expression"] (spValue K (n + 1)) := by
  refine T.m_value.prX scValue (fun _ _ _ _ _ _ us hl => match us, hl with | [_, _], _ => rfl) (fun vs H Q E h => ?_) (fun cdv A outer s H vs Q E hr h => ?_)
  · obtain ⟨F, A1, st, e, v, rfl, _⟩ := h
    rfl
  · obtain ⟨F, A1, st, e, v, rfl, fo, R, hv, hd, h⟩ := h
    have hu := hu_of hr
    refine ⟨_, (pss_cons (ps_set (i := 2) scValue.nd rfl (Or.inl rfl) (pe_ix ix_tup (pv 1) pe_int (fun _ _ => rfl)))
      (pss_cons (ps_if (pt_cmpR op_eq (pv 2) pe_str (nomark _)) (pss_one (ps_ret (pe_callP (ok_checked T) (hr.mono (by omega)) rfl (T.glo _ (by decide +kernel)) (passX (takes_of rfl rfl rfl rfl)) (pa_cons (pe_ix ix_tup (pv 1) pe_int (fun _ _ => rfl)) pa_nil)))) pss_nil)
      (pss_cons (ps_if (pt_cmpR op_eq (pv 2) pe_str (nomark _)) (pss_one (ps_ret (pe_dget hu (pe_fld (pv 0) rfl) (pe_ix ix_tup (pv 1) pe_int (fun _ _ => rfl)) (fun _ _ => rfl)))) pss_nil)
      (pss_cons (ps_if (pt_cmpR op_eq (pv 2) pe_str (nomark _)) (pss_one (ps_ret (pe_methP (ok_read T) T.bC (T.bM _ (by decide +kernel)) (hr.mono (by omega)) (passX (takes_of rfl rfl rfl rfl)) (pv 0) (pa_cons (pe_ix ix_tup (pv 1) pe_int (fun _ _ => rfl)) (pa_cons (pe_methP IH T.bC (T.bM _ (by decide +kernel)) hr (passX (takes_of rfl rfl rfl rfl)) (pv 0) (pa_cons (pe_ix ix_tup (pv 1) pe_int (fun _ _ => rfl)) pa_nil)) pa_nil))))) pss_nil)
      (pss_cons (ps_set (i := 3) scValue.nd rfl (Or.inl rfl) (pe_methP IH T.bC (T.bM _ (by decide +kernel)) hr (passX (takes_of rfl rfl rfl rfl)) (pv 0) (pa_cons (pe_ix ix_tup (pv 1) pe_int (fun _ _ => rfl)) pa_nil)))
      (pss_cons (ps_if (pt_cmpR op_eq (pv 2) pe_str (nomark _)) (pss_one (ps_ret (pe_callP (ok_checked T) (hr.mono (by omega)) rfl (T.glo _ (by decide +kernel)) (passX (takes_of rfl rfl rfl rfl)) (pa_cons (pe_un un_neg (pv 3)) pa_nil)))) pss_nil)
      (pss_cons (ps_if (pt_cmpR op_eq (pv 2) pe_str (nomark _)) (pss_one (ps_ret (pe_callTy call_int1 rfl (T.free _ (by decide +kernel)) (by decide +kernel) (pa_cons (pe_cmpR op_eq (pv 3) pe_int (nomark _)) pa_nil)))) pss_nil)
      (pss_cons (ps_if (pt_cmpR op_eq (pv 2) pe_str (nomark _)) (pss_one (ps_ret (pe_callTy call_int1 rfl (T.free _ (by decide +kernel)) (by decide +kernel) (pa_cons (pe_and (pe_cmpR op_ne (pv 3) pe_int (nomark _)) (pe_one (pe_cmpR op_ne (pe_methP IH T.bC (T.bM _ (by decide +kernel)) hr (passX (takes_of rfl rfl rfl rfl)) (pv 0) (pa_cons (pe_ix ix_tup (pv 1) pe_int (fun _ _ => rfl)) pa_nil)) pe_int (nomark _)))) pa_nil)))) pss_nil)
      (pss_cons (ps_if (pt_cmpR op_eq (pv 2) pe_str (nomark _)) (pss_one (ps_ret (pe_callTy call_int1 rfl (T.free _ (by decide +kernel)) (by decide +kernel) (pa_cons (pe_or (pe_cmpR op_ne (pv 3) pe_int (nomark _)) (pe_one (pe_cmpR op_ne (pe_methP IH T.bC (T.bM _ (by decide +kernel)) hr (passX (takes_of rfl rfl rfl rfl)) (pv 0) (pa_cons (pe_ix ix_tup (pv 1) pe_int (fun _ _ => rfl)) pa_nil)) pe_int (nomark _)))) pa_nil)))) pss_nil)
      (pss_one (ps_ret (pe_callP (ok_combined T) (hr.mono (by omega)) rfl (T.glo _ (by decide +kernel)) (passX (takes_of rfl rfl rfl rfl)) (pa_cons (pv 2) (pa_cons (pv 3) (pa_cons (pe_methP IH T.bC (T.bM _ (by decide +kernel)) hr (passX (takes_of rfl rfl rfl rfl)) (pv 0) (pa_cons (pe_ix ix_tup (pv 1) pe_int (fun _ _ => rfl)) pa_nil)) pa_nil))))))))))))))), ?_⟩
    have g := evE_good fo.mok
    -- self.value(e') of a part e'
    have recV : ∀ (e' : Ex) (u : V) (st' : Stt) (H1 : Hp) (Q' : VK) (te : TE) (σ : L2.St), exD e' < n → ExAt F.G e' u → RunAt K F A1 H1 st' → (∀ R : VK, R u H1 → te σ H1 R) → RP K F A1 Q' E (evE F.mem e' st') →
        ∃ a dx fs, V.ref F.self = .ref a ∧ H1 a = some (.ins (aB K) dx fs) ∧ fs.lookup ("value" : Str) = none ∧ tCons te tNil σ H1 fun vs H2 => spValue K n (V.ref F.self :: (vs ++ [])) H2 Q' E := fun e' u st' H1 Q' te σ d1 a1 R1 i1 k1 => by
      obtain ⟨dx, z1, _⟩ := R1.at_
      exact ⟨F.self, dx, _, rfl, z1, bf_none (by decide +kernel), i1 _ ⟨F, A1, st', e', u, rfl, fo, R1, a1, d1, k1⟩⟩
    have ck0 : ∀ {v : Int} {s1 : Stt}, Ok1 v → ck (-v) s1 = .ok (-v) s1 := fun {v s1} o => by
      unfold ck ckV
      rw [if_pos ⟨by have := o.2; omega, by have := o.1; omega⟩]
      rfl
    cases e with
    | num m =>
      obtain ⟨p, rfl, ht⟩ := hv
      have ht1 := R.same _ _ ht
      exact ⟨_, rfl, p, _, _, _, rfl, rfl, SqT.of ht1, a0, _, rfl, rfl, _, rfl, st_t (by decide +kernel) ⟨_, rfl, p, _, _, _, rfl, rfl, SqT.of ht1, a1, ck_rdR R h⟩⟩
    | loc l =>
      obtain ⟨p, rfl, ht⟩ := hv
      have ht1 := R.same _ _ ht
      obtain ⟨dx, z1, z2, _⟩ := id R.at_
      refine ⟨_, rfl, p, _, _, _, rfl, rfl, SqT.of ht1, a0, _, rfl, rfl, _, rfl, st_f (by decide +kernel) ⟨_, rfl, rfl, _, rfl, st_t (by decide +kernel) ?_⟩⟩
      exact ⟨_, rfl, F.self, _, dx, _, _, rfl, z1, T.bC, T.bN _ (by decide +kernel), bf_locals, _, rfl, p, _, _, _, rfl, rfl, SqT.of ht1, a1, A1.dl, .int (locV st l), rfl, by
        have q := DGet.k (k := (Sum.inr (lcS l) : Key)) z2
        rw [locK_get] at q
        exact q, h _ R⟩
    | cell c i =>
      obtain ⟨p, u, rfl, ht, hi⟩ := hv
      have ht1 := R.same _ _ ht
      have hd : exD i + 1 < n + 1 := hd
      rw [ev_cell] at h
      obtain ⟨dx, z1, _⟩ := id R.at_
      refine ⟨_, rfl, p, _, _, _, rfl, rfl, SqT.of ht1, a0, _, rfl, rfl, _, rfl, st_f (by decide +kernel) ⟨_, rfl, rfl, _, rfl, st_f (by decide +kernel) ⟨_, rfl, rfl, _, rfl, st_t (by decide +kernel) ?_⟩⟩⟩
      refine ⟨_, rfl, F.self, dx, _, rfl, z1, bf_none (by decide +kernel), _, rfl, p, _, _, _, rfl, rfl, SqT.of ht1, a1, _, rfl, recV i u st H _ _ _ (by omega) hi R (fun R0 z => ⟨_, rfl, p, _, _, _, rfl, rfl, SqT.of ht1, a2, z⟩) (RP.step (g i st R.good) h fun v s1 H1 ov R1 h1 => ?_)⟩
      exact ⟨F, A1, s1, c, v, rfl, fo, R1, h1⟩
    | neg a =>
      obtain ⟨p, u, rfl, ht, hi⟩ := hv
      have ht1 := R.same _ _ ht
      have hd : exD a + 1 < n + 1 := hd
      rw [ev_neg] at h
      refine ⟨_, rfl, p, _, _, _, rfl, rfl, SqT.of ht1, a0, _, rfl, rfl, _, rfl, st_f (by decide +kernel) ⟨_, rfl, rfl, _, rfl, st_f (by decide +kernel) ⟨_, rfl, rfl, _, rfl, st_f (by decide +kernel) ?_⟩⟩⟩
      refine ⟨_, rfl, recV a u st H _ _ _ (by omega) hi R (fun R0 z => ⟨_, rfl, p, _, _, _, rfl, rfl, SqT.of ht1, a1, z⟩) (RP.step (g a st R.good) h fun v s1 H1 ov R1 h1 => ?_)⟩
      refine ⟨_, rfl, rfl, _, rfl, st_t (by decide +kernel) ⟨_, rfl, _, rfl, ck_rdR R1 ?_⟩⟩
      rw [ck0 ov]
      exact h1
    | no a =>
      obtain ⟨p, u, rfl, ht, hi⟩ := hv
      have ht1 := R.same _ _ ht
      have hd : exD a + 1 < n + 1 := hd
      rw [ev_no] at h
      refine ⟨_, rfl, p, _, _, _, rfl, rfl, SqT.of ht1, a0, _, rfl, rfl, _, rfl, st_f (by decide +kernel) ⟨_, rfl, rfl, _, rfl, st_f (by decide +kernel) ⟨_, rfl, rfl, _, rfl, st_f (by decide +kernel) ?_⟩⟩⟩
      refine ⟨_, rfl, recV a u st H _ _ _ (by omega) hi R (fun R0 z => ⟨_, rfl, p, _, _, _, rfl, rfl, SqT.of ht1, a1, z⟩) (RP.step (g a st R.good) h fun v s1 H1 ov R1 h1 => ?_)⟩
      refine ⟨_, rfl, rfl, _, rfl, st_f (by decide +kernel) ⟨_, rfl, rfl, _, rfl, st_t (by decide +kernel) ?_⟩⟩
      refine ⟨_, rfl, rfl, .inr ⟨_, rfl, ?_⟩⟩
      have q := h1 _ R1
      rw [← b0] at q
      exact q
    | bin k a b =>
      obtain ⟨p, u, u2, rfl, ht, hi, hj⟩ := hv
      have ht1 := R.same _ _ ht
      have hd : max (exD a) (exD b) + 1 < n + 1 := hd
      rw [ev_bin] at h
      have more : ∀ {A B : Prop} {t : Str}, (bkS k == t) = false → B → if decide (V.str (bkS k) = V.str t) = true then A else B := fun q z => st_f q z
      by_cases har : isAr k = true
      · have nk := fun {s : Str} (hs : s ∈ (["number", "local", "cell", "negative", "not", "and", "or"] : List Str)) => bkN har hs
        refine ⟨_, rfl, p, _, _, _, rfl, rfl, SqT.of ht1, a0, _, rfl, rfl, _, rfl, more (nk (by decide +kernel)) ⟨_, rfl, rfl, _, rfl, more (nk (by decide +kernel)) ⟨_, rfl, rfl, _, rfl, more (nk (by decide +kernel)) ?_⟩⟩⟩
        refine ⟨_, rfl, recV a u st H _ _ _ (by omega) hi R (fun R0 z => ⟨_, rfl, p, _, _, _, rfl, rfl, SqT.of ht1, a1, z⟩) (RP.step (g a st R.good) h fun v s1 H1 ov R1 h1 => ?_)⟩
        refine ⟨_, rfl, rfl, _, rfl, more (nk (by decide +kernel)) ⟨_, rfl, rfl, _, rfl, more (nk (by decide +kernel)) ⟨_, rfl, rfl, _, rfl, more (nk (by decide +kernel)) ⟨_, rfl, rfl, _, rfl, more (nk (by decide +kernel)) ?_⟩⟩⟩⟩
        rw [binB_ar har] at h1
        have ht2 := R1.same _ _ ht
        refine ⟨_, rfl, _, rfl, _, rfl, recV b u2 s1 H1 _ _ _ (by omega) hj R1 (fun R0 z => ⟨_, rfl, p, _, _, _, rfl, rfl, SqT.of ht2, a2, z⟩) (RP.step (g b s1 R1.good) h1 fun z s2 H2 oz R2 h2 => ?_)⟩
        refine ⟨k, v, z, rfl, har, ov, oz, ?_⟩
        unfold two at h2
        revert h2
        cases twoV k v z with
        | ok y => exact fun h2 H3 s3 => h2 _ (R2.keep s3)
        | error r => exact fun h2 => h2.er R2
      · have kk : k = .and ∨ k = .or := by cases k <;> first | exact .inl rfl | exact .inr rfl | exact absurd rfl har
        rcases kk with rfl | rfl
        · refine ⟨_, rfl, p, _, _, _, rfl, rfl, SqT.of ht1, a0, _, rfl, rfl, _, rfl, st_f (by decide +kernel) ⟨_, rfl, rfl, _, rfl, st_f (by decide +kernel) ⟨_, rfl, rfl, _, rfl, st_f (by decide +kernel) ?_⟩⟩⟩
          refine ⟨_, rfl, recV a u st H _ _ _ (by omega) hi R (fun R0 z => ⟨_, rfl, p, _, _, _, rfl, rfl, SqT.of ht1, a1, z⟩) (RP.step (g a st R.good) h fun v s1 H1 ov R1 h1 => ?_)⟩
          refine ⟨_, rfl, rfl, _, rfl, st_f (by decide +kernel) ⟨_, rfl, rfl, _, rfl, st_f (by decide +kernel) ⟨_, rfl, rfl, _, rfl, st_t (by decide +kernel) ?_⟩⟩⟩
          have ht2 := R1.same _ _ ht
          refine ⟨_, rfl, rfl, _, rfl, n1 (fun q => ?_) fun q => ?_⟩
          · have e : binB .and v (evE F.mem b) s1 = .ok 0 s1 := if_pos q
            rw [e] at h1
            exact .inr ⟨_, rfl, h1 _ R1⟩
          · have e : binB .and v (evE F.mem b) s1 = tf (evE F.mem b s1) := if_neg q
            rw [e, tf_bd] at h1
            refine ⟨_, rfl, recV b u2 s1 H1 _ _ _ (by omega) hj R1 (fun R0 z => ⟨_, rfl, p, _, _, _, rfl, rfl, SqT.of ht2, a2, z⟩) (RP.step (g b s1 R1.good) h1 fun z s2 H2 oz R2 h2 => ?_)⟩
            refine ⟨rfl, .inr ⟨_, rfl, ?_⟩⟩
            have q2 := h2 _ R2
            rw [← b1] at q2
            exact q2
        · refine ⟨_, rfl, p, _, _, _, rfl, rfl, SqT.of ht1, a0, _, rfl, rfl, _, rfl, st_f (by decide +kernel) ⟨_, rfl, rfl, _, rfl, st_f (by decide +kernel) ⟨_, rfl, rfl, _, rfl, st_f (by decide +kernel) ?_⟩⟩⟩
          refine ⟨_, rfl, recV a u st H _ _ _ (by omega) hi R (fun R0 z => ⟨_, rfl, p, _, _, _, rfl, rfl, SqT.of ht1, a1, z⟩) (RP.step (g a st R.good) h fun v s1 H1 ov R1 h1 => ?_)⟩
          refine ⟨_, rfl, rfl, _, rfl, st_f (by decide +kernel) ⟨_, rfl, rfl, _, rfl, st_f (by decide +kernel) ⟨_, rfl, rfl, _, rfl, st_f (by decide +kernel) ⟨_, rfl, rfl, _, rfl, st_t (by decide +kernel) ?_⟩⟩⟩⟩
          have ht2 := R1.same _ _ ht
          refine ⟨_, rfl, rfl, _, rfl, n1 (fun q => ?_) fun q => ?_⟩
          · have e : binB .or v (evE F.mem b) s1 = tf (evE F.mem b s1) := if_pos q
            rw [e, tf_bd] at h1
            refine ⟨_, rfl, recV b u2 s1 H1 _ _ _ (by omega) hj R1 (fun R0 z => ⟨_, rfl, p, _, _, _, rfl, rfl, SqT.of ht2, a2, z⟩) (RP.step (g b s1 R1.good) h1 fun z s2 H2 oz R2 h2 => ?_)⟩
            refine ⟨rfl, .inr ⟨_, rfl, ?_⟩⟩
            have q2 := h2 _ R2
            rw [← b1] at q2
            exact q2
          · have e : binB .or v (evE F.mem b) s1 = .ok 1 s1 := if_neg q
            rw [e] at h1
            exact .inr ⟨_, rfl, h1 _ R1⟩
/-- value, for expressions of a depth below n -/
theorem ok_value (T : Txt K mg) : ∀ n : Nat, Pr P w K mg base (L2.CX P w) (n + 4) (He.ma K (aB K) "value") ["self", "expression"] (spValue K n)
  | 0 => bind2 T.m_value (fun _ _ _ _ _ _ us hl => match us, hl with | [_, _], _ => rfl) fun _ _ _ _ ⟨_, _, _, _, _, _, _, _, _, z, _⟩ => absurd z (Nat.not_lt_zero _)
  | n + 1 => ok_value_step T (ok_value T n)
end
end K13
set_option Elab.async false
set_option linter.all false
set_option maxRecDepth 100000
set_option maxHeartbeats 4000000
/-! K13P4: the program's statements, by the depth of lists. -/
namespace K13
open PySem PySem.Spec PyProof.Rows L2
/-- what a list, a statement comes to, and what it hands back -/
def OP (K : PySem.W.Frag) (F : Fx) (Q : VK) (E : XK) : Oc × Stt → Prop
  | (.done, st) => ∀ A H', RunAt K F A H' st → Q (.str "done") H'
  | (.retry, st) => ∀ A H', RunAt K F A H' st → Q (.str "retry") H'
  | (.undo, st) => ∀ A H', RunAt K F A H' st → Q (.str "undo") H'
  | (.fault r, st) => ErR K F E r st
/-- a list, nested less than m deep -/
def spRun (K : PySem.W.Frag) : Nat → Sp
  | 0 => fun _ _ _ _ => False
  | n + 1 => fun vs H Q E => ∃ (F : Fx) (A : Ad) (st : Stt) (b : List Sm) (q : Addr), vs = [.ref F.self, .ref q] ∧ FxOk F ∧ RunAt K F A H st ∧ BodyAt F.G (SmAt F.G n) b q ∧ WfB n b ∧ st.later.length + 3 * cap n ≤ 1000000 ∧ OP K F Q E (runL (runS F.mem n) b st)
def spRunOne (K : PySem.W.Frag) (n : Nat) : Sp := fun vs H Q E => ∃ (F : Fx) (A : Ad) (st : Stt) (m : Sm) (v : V), vs = [.ref F.self, v] ∧ FxOk F ∧ RunAt K F A H st ∧ SmAt F.G n m v ∧ Wf n m ∧ st.later.length + cap n ≤ 1000000 ∧ OP K F Q E (runS F.mem n m st)
def spRepeat (K : PySem.W.Frag) (m : Nat) : Sp := fun vs H Q E => ∃ (n : Nat) (F : Fx) (A : Ad) (st : Stt) (c : Ex) (a : List Sm) (v : V), m = n + 1 ∧ vs = [.ref F.self, v] ∧ FxOk F ∧ RunAt K F A H st ∧ SmAt F.G m (.rep c a) v ∧ Wf m (.rep c a) ∧ st.later.length + cap m ≤ 1000000 ∧ OP K F Q E (runS F.mem m (.rep c a) st)
def spChoose (K : PySem.W.Frag) (m : Nat) : Sp := fun vs H Q E => ∃ (n : Nat) (F : Fx) (A : Ad) (st : Stt) (a b : List Sm) (v : V), m = n + 1 ∧ vs = [.ref F.self, v] ∧ FxOk F ∧ RunAt K F A H st ∧ SmAt F.G m (.cho a b) v ∧ Wf m (.cho a b) ∧ st.later.length + cap m ≤ 1000000 ∧ OP K F Q E (runS F.mem m (.cho a b) st)
theorem scRun : FnScope ["self", "body", "statement", "end"] ["self", "body"] (defScope sRun) := ⟨rfl, rfl, rfl, by decide +kernel, rfl, by decide +kernel, by decide +kernel⟩
theorem scRunOne : FnScope ["self", "statement", "kind", "index", "value"] ["self", "statement"] (defScope sRunOne) := ⟨rfl, rfl, rfl, by decide +kernel, rfl, by decide +kernel, by decide +kernel⟩
theorem scRepeat : FnScope ["self", "statement", "count", "_", "end"] ["self", "statement"] (defScope sRepeat) := ⟨rfl, rfl, rfl, by decide +kernel, rfl, by decide +kernel, by decide +kernel⟩
theorem scChoose : FnScope ["self", "statement", "locals_then", "writes_then", "later_then", "end"] ["self", "statement"] (defScope sChoose) := ⟨rfl, rfl, rfl, by decide +kernel, rfl, by decide +kernel, by decide +kernel⟩
/-- behind a statement: done, then g; else the end -/
def Oa (o : Oc × Stt) (g : Stt → Oc × Stt) : Oc × Stt := match o with
  | (.done, s) => g s
  | (.retry, s) => (.retry, s)
  | (.undo, s) => (.undo, s)
  | (.fault w, s) => (.fault w, s)
theorem runL_cons (f : Sm → Stt → Oc × Stt) (s : Sm) (r : List Sm) (st : Stt) : runL f (s :: r) st = Oa (f s st) (runL f r) := by
  rw [runL]
  cases f s st with
  | mk o s1 => cases o <;> rfl
theorem runN_succ (g : Stt → Oc × Stt) (n : Nat) (st : Stt) : runN g (n + 1) st = Oa (g st) (runN g n) := by
  rw [runN]
  cases g st with
  | mk o s1 => cases o <;> rfl
/-- a value, then an end -/
def Rs.bo (a : Rs) (f : Int → Stt → Oc × Stt) : Oc × Stt := match a with
  | .er r s => (.fault r, s)
  | .ok v s => f v s
/-- behind the first list of a choose -/
def Ch (o : Oc × Stt) (g : Stt → Oc × Stt) : Oc × Stt := match o with
  | (.done, s) => (.done, s)
  | (.undo, s) => (.undo, s)
  | (.fault w, s) => (.fault w, s)
  | (.retry, s) => g s
section
variable (mem : List Int) (n : Nat) (st : Stt)
theorem ru_set (l : Lc) (e : Ex) : runS mem n (.set l e) st = (evE mem e st).bo fun v s => (.done, setL l v s) := by
  cases n <;> (rw [runS]; cases evE mem e st <;> rfl)
theorem ru_put (c : Nm) (i e : Ex) : runS mem n (.put c i e) st = (evE mem i st).bo fun v s => (evE mem e s).bo fun z s2 => if 0 ≤ v ∧ v < sizeOf c then (.done, { s2 with writes := putI s2.writes (firstOf c + v) z }) else (.fault .index, s2) := by
  cases n <;> (rw [runS]; cases evE mem i st <;> first | rfl | (rename_i v s; show _ = (evE mem e s).bo _; dsimp only; cases evE mem e s <;> rfl))
theorem ru_later (e : Ex) : runS mem n (.later e) st = (evE mem e st).bo fun v s => (.done, { s with later := s.later ++ [v] }) := by
  cases n <;> (rw [runS]; cases evE mem e st <;> rfl)
theorem ru_retry : runS mem n .retry st = (.retry, st) := by cases n <;> rw [runS]
theorem ru_undo : runS mem n .undo st = (.undo, st) := by cases n <;> rw [runS]
theorem ru_ite (c : Ex) (a b : List Sm) : runS mem (n + 1) (.ite c a b) st = (evE mem c st).bo fun v s => if v = 0 then runL (runS mem n) b s else runL (runS mem n) a s := by
  rw [runS]; cases evE mem c st <;> rfl
theorem ru_rep (c : Ex) (a : List Sm) : runS mem (n + 1) (.rep c a) st = (evE mem c st).bo fun v s => if 0 ≤ v ∧ v ≤ 20 then runN (runL (runS mem n) a) v.toNat s else (.fault .count, s) := by
  rw [runS]; cases evE mem c st <;> rfl
theorem ru_cho (a b : List Sm) : runS mem (n + 1) (.cho a b) st = Ch (runL (runS mem n) a st) fun s => runL (runS mem n) b { st with reads := s.reads } := by
  rw [runS]
  cases runL (runS mem n) a st with
  | mk o s => cases o <;> rfl
end
theorem paired_get {α β : Type} {F : α → β → Prop} : ∀ {l : List α} {vs : List β} {i : Nat} {y : β}, Paired F l vs → vs[i]? = some y → ∃ x, l[i]? = some x ∧ F x y
  | _, _, _, _, .nil, h => by cases h
  | _, _, 0, _, .cons r _, h => by cases h; exact ⟨_, rfl, r⟩
  | _, _, i + 1, y, .cons _ t, h => by
    obtain ⟨x, h1, h2⟩ := paired_get (i := i) t (by simpa using h)
    exact ⟨x, by simpa using h1, h2⟩
section
variable {P : Program} {w : World} {K : PySem.W.Frag} {mg : Str → Option Value} {base : Heap}
/-- an end of a statement: done goes on, the others are handed back -/
theorem OP.step {F : Fx} {o : Oc × Stt} {g : Stt → Oc × Stt} {Q Q' : VK} {E : XK} (h : OP K F Q E (Oa o g)) (hd : ∀ A s1 H1, o = (.done, s1) → RunAt K F A H1 s1 → Q' (.str "done") H1)
    (hn : ∀ (z : Str) H1, (z == ("done" : Str)) = false → Q (.str z) H1 → Q' (.str z) H1) : OP K F Q' E o := by
  obtain ⟨oc, s1⟩ := o
  cases oc with
  | done => exact fun A H1 R => hd A s1 H1 rfl R
  | retry => exact fun A H1 R => hn _ _ (by decide +kernel) (h A H1 R)
  | undo => exact fun A H1 R => hn _ _ (by decide +kernel) (h A H1 R)
  | fault r => exact h
/-- an end of a choose's first list: retry goes on, the others are handed back -/
theorem OP.stepC {F : Fx} {o : Oc × Stt} {g : Stt → Oc × Stt} {Q Q' : VK} {E : XK} (h : OP K F Q E (Ch o g)) (hd : ∀ A s1 H1, o = (.retry, s1) → RunAt K F A H1 s1 → Q' (.str "retry") H1)
    (hn : ∀ (z : Str) H1, (z == ("retry" : Str)) = false → Q (.str z) H1 → Q' (.str z) H1) : OP K F Q' E o := by
  obtain ⟨oc, s1⟩ := o
  cases oc with
  | retry => exact fun A H1 R => hd A s1 H1 rfl R
  | done => exact fun A H1 R => hn _ _ (by decide +kernel) (h A H1 R)
  | undo => exact fun A H1 R => hn _ _ (by decide +kernel) (h A H1 R)
  | fault r => exact h
/-- a value in a statement -/
theorem RP.stepO {F : Fx} {A : Ad} {a : Rs} {st : Stt} {Q Q' : VK} {E : XK} {f : Int → Stt → Oc × Stt} (g : RGood st a) (h : OP K F Q E (a.bo f))
    (k : ∀ v s1 H', Ok1 v → s1.later = st.later → RunAt K F A H' s1 → OP K F Q E (f v s1) → Q' (.int v) H') : RP K F A Q' E a := by
  cases a with
  | er r s1 => exact h
  | ok v s1 => exact fun H' R => k v s1 H' g.1 g.2.2 R h
theorem OP.mono {F : Fx} {o : Oc × Stt} {Q Q' : VK} {E : XK} (h : OP K F Q E o) (hq : ∀ z H1, Q (.str z) H1 → Q' (.str z) H1) : OP K F Q' E o := by
  obtain ⟨oc, s1⟩ := o
  cases oc with
  | retry => exact fun A H1 R => hq _ _ (h A H1 R)
  | done => exact fun A H1 R => hq _ _ (h A H1 R)
  | undo => exact fun A H1 R => hq _ _ (h A H1 R)
  | fault r => exact h
theorem iteNd {A B : Prop} {z : Str} (h : (z == ("done" : Str)) = false) (q : A) : if (!decide (V.str z = V.str "done")) = true then A else B := if_t (by rw [dS_f h]; rfl) q
theorem ok_run_step (T : Txt K mg) {n j : Nat} (IH : Pr P w K mg base (L2.CX P w) j (He.ma K (aB K) "run_one") ["self", "statement"] (spRunOne K n)) :
    Pr P w K mg base (L2.CX P w) (j + 1) (He.ma K (aB K) "run") ["self", "body"] (spRun K (n + 1)) := by
  refine T.m_run.prX scRun (fun _ _ _ _ _ _ us hl => match us, hl with | [_, _], _ => rfl) (fun vs H Q E h => ?_) (fun cdv A outer s H vs Q E hr h => ?_)
  · obtain ⟨F, A1, st, b, q, rfl, _⟩ := h
    rfl
  · obtain ⟨F, A1, st, b, q, rfl, fo, R, ⟨vs, hq, hp⟩, wf, hl, h⟩ := h
    refine ⟨_, pss_cons (ps_for (passes_of rfl) rfl (pi_list (pv 1)) (pg_name (i := 2) scRun.nd rfl (Or.inl rfl)) (pss_cons (ps_set (i := 3) scRun.nd rfl (Or.inl rfl) (pe_methP IH T.bC (T.bM _ (by decide +kernel)) hr (passX (takes_of rfl rfl rfl rfl)) (pv 0) (pa_cons (pv 2) pa_nil)))
      (pss_one (ps_if (pt_cmpR op_ne (pv 3) pe_str (nomark _)) (pss_one (ps_ret (pv 3))) pss_nil)))) (pss_one (ps_ret pe_str)), ?_⟩
    have el : b.length = vs.length := Paired.length hp
    refine ⟨_, rfl, q, rfl, ⟨_, SqL.of (R.same _ _ hq)⟩, for_list (K := K) (a := q) (xs := vs) (fun i σ H' => ∃ (A2 : Ad) (s1 : Stt) (v2 v3 : Option V), σ = [some (.ref F.self), some (.ref q), v2, v3] ∧ RunAt K F A2 H' s1 ∧ runL (runS F.mem n) b st = runL (runS F.mem n) (b.drop i) s1 ∧ s1.later.length + (3 - i) * cap n ≤ 1000000)
      ⟨A1, st, none, none, rfl, R, rfl, hl⟩ (fun i σ H' _ ⟨_, _, _, _, _, R1, _⟩ => SqL.of (R1.same _ _ hq)) ?_ ?_⟩
    · rintro i y σ H' hi ⟨A2, s1, v2, v3, rfl, R1, e1, l1⟩
      obtain ⟨m, hm, hsm⟩ := paired_get hp hi
      have hil : i < b.length := (List.getElem?_eq_some_iff.mp hm).1
      have ed : b.drop i = m :: b.drop (i + 1) := by
        rw [List.drop_eq_getElem_cons hil]
        congr 1
        exact (List.getElem?_eq_some_iff.mp hm).2
      have hmem : m ∈ b := List.mem_of_getElem? hm
      have hc : (3 - i) * cap n = (3 - (i + 1)) * cap n + cap n := by
        have : 3 - i = (3 - (i + 1)) + 1 := by have := wf.1; omega
        rw [this, Nat.succ_mul]
      have gd := runS_good fo.mok n m (wf.2 m hmem) s1 R1.good
      rw [ed, runL_cons] at e1
      have h' := h
      rw [e1] at h'
      obtain ⟨dx, z1, _⟩ := R1.at_
      refine ⟨_, rfl, F.self, dx, _, rfl, z1, bf_none (by decide +kernel), _, rfl, F, A2, s1, m, y, rfl, fo, R1, hsm, wf.2 m hmem, by omega, OP.step h' (fun A3 s2 H2 e2 R2 => ?_) fun z H2 hz hq2 => ?_⟩
      · refine ⟨_, rfl, rfl, _, rfl, if_f (by decide +kernel) ?_⟩
        rw [e2] at e1 gd
        exact ⟨A3, s2, _, _, rfl, R2, e1, by have := gd.2; dsimp only at this; omega⟩
      · exact ⟨_, rfl, rfl, _, rfl, iteNd hz ⟨_, rfl, hq2⟩⟩
    · rintro σ H' ⟨A2, s1, v2, v3, rfl, R1, e1, l1⟩
      rw [← el, List.drop_length] at e1
      rw [e1] at h
      exact h A2 H' R1
theorem ok_repeat (T : Txt K mg) {m j : Nat} (IH : Pr P w K mg base (L2.CX P w) j (He.ma K (aB K) "run") ["self", "body"] (spRun K m)) (hj : 8 ≤ j) :
    Pr P w K mg base (L2.CX P w) (j + 1) (He.ma K (aB K) "run_repeat") ["self", "statement"] (spRepeat K m) := by
  refine T.m_run_repeat.prX scRepeat (fun _ _ _ _ _ _ us hl => match us, hl with | [_, _], _ => rfl) (fun vs H Q E h => ?_) (fun cdv A outer s H vs Q E hr h => ?_)
  · obtain ⟨n, F, A1, st, c, a, v, _, rfl, _⟩ := h
    rfl
  · obtain ⟨n, F, A1, st, c, a, v, rfl, rfl, fo, R, hs, wf, hl, h⟩ := h
    obtain ⟨tk, mc⟩ := T.mc
    obtain ⟨p, u, q, rfl, ht, ⟨hc, hcd⟩, hb⟩ := hs
    refine ⟨_, (pss_cons (ps_set (i := 2) scRepeat.nd rfl (Or.inl rfl) (pe_methP (ok_value T 4) T.bC (T.bM _ (by decide +kernel)) (hr.mono (by omega)) (passX (takes_of rfl rfl rfl rfl)) (pv 0) (pa_cons (pe_ix ix_tup (pv 1) pe_int (fun _ _ => rfl)) pa_nil)))
      (pss_cons (ps_if (pt_not (pt_chain op_le op_le pe_int (pv 2) (pe_glob (v := .int 20) rfl mc ⟨_, rfl⟩))) (pss_one (ps_raiseF .count T rfl (hr.mono (by omega)) (takes_of rfl rfl rfl rfl))) pss_nil)
      (pss_cons (ps_for (passes_of rfl) rfl (pi_range1 rfl (T.free _ (by decide +kernel)) (pa_cons (pv 2) pa_nil)) (pg_name (i := 3) scRepeat.nd rfl (Or.inl rfl)) (pss_cons (ps_set (i := 4) scRepeat.nd rfl (Or.inl rfl) (pe_methP IH T.bC (T.bM _ (by decide +kernel)) hr (passX (takes_of rfl rfl rfl rfl)) (pv 0) (pa_cons (pe_ix ix_tup (pv 1) pe_int (fun _ _ => rfl)) pa_nil)))
      (pss_one (ps_if (pt_cmpR op_ne (pv 4) pe_str (nomark _)) (pss_one (ps_ret (pv 4))) pss_nil))))
      (pss_one (ps_ret pe_str))))), ?_⟩
    have ht1 := R.same _ _ ht
    obtain ⟨dx, z1, _⟩ := id R.at_
    rw [ru_rep] at h
    refine ⟨_, rfl, F.self, dx, _, rfl, z1, bf_none (by decide +kernel), _, rfl, p, _, _, _, rfl, rfl, SqT.of ht1, a1, F, A1, st, c, u, rfl, fo, R, hc, by omega, RP.stepO (evE_good fo.mok c st R.good) h fun v s1 H1 ov el R1 h => ?_⟩
    · have ll := len_eq el
      refine ⟨_, rfl, _, _, rfl, rfl, _, rfl, ?_⟩
      by_cases c1 : 0 ≤ v
      · refine if_t (decide_eq_true c1) ⟨_, _, rfl, rfl, _, rfl, ?_⟩
        by_cases c2 : v ≤ 20
        · rw [if_pos ⟨c1, c2⟩] at h
          refine if_f (by rw [decide_eq_true c2]; rfl) ?_
          refine ⟨_, rfl, v, rfl, by omega, by omega, for_range (lo := 0) (n := v.toNat) (fun i σ H' => ∃ (A2 : Ad) (s2 : Stt) (v3 v4 : Option V), σ = [some (.ref F.self), some (.ref p), some (.int v), v3, v4] ∧ RunAt K F A2 H' s2 ∧ runN (runL (runS F.mem n) a) v.toNat s1 = runN (runL (runS F.mem n) a) (v.toNat - i) s2 ∧ s2.later.length + (20 - i) * (3 * cap n) ≤ 1000000)
            ⟨A1, s1, none, none, rfl, R1, rfl, ?_⟩ ?_ ?_⟩
          · have : cap (n + 1) = 60 * cap n := rfl
            omega
          · rintro i σ H' hi ⟨A2, s2, v3, v4, rfl, R2, e1, l1⟩
            have ei : v.toNat - i = (v.toNat - (i + 1)) + 1 := by omega
            have hcm : (20 - i) * (3 * cap n) = (20 - (i + 1)) * (3 * cap n) + 3 * cap n := by
              have : 20 - i = (20 - (i + 1)) + 1 := by omega
              rw [this, Nat.succ_mul]
            have gd2 := (runB_good fo.mok (n := n) (b := a) wf.2 R2.good).mono (Nat.mul_le_mul_right _ wf.1)
            rw [ei, runN_succ] at e1
            have h' := h
            rw [e1] at h'
            obtain ⟨dx2, z2, _⟩ := id R2.at_
            have ht2 := R2.same _ _ ht
            refine ⟨_, rfl, F.self, dx2, _, rfl, z2, bf_none (by decide +kernel), _, rfl, p, _, _, _, rfl, rfl, SqT.of ht2, a2, F, A2, s2, a, q, rfl, fo, R2, hb, wf, by omega, OP.step h' (fun A3 s3 H3 e2 R3 => ?_) fun z H3 hz hq2 => ?_⟩
            · refine ⟨_, rfl, rfl, _, rfl, if_f (by decide +kernel) ?_⟩
              rw [e2] at e1 gd2
              exact ⟨A3, s3, _, _, rfl, R3, e1, by have := gd2.2; dsimp only at this; omega⟩
            · exact ⟨_, rfl, rfl, _, rfl, iteNd hz ⟨_, rfl, hq2⟩⟩
          · rintro σ H' ⟨A2, s2, v3, v4, rfl, R2, e1, l1⟩
            rw [Nat.sub_self] at e1
            rw [e1] at h
            exact h A2 H' R2
        · rw [if_neg fun q => c2 q.2] at h
          refine if_t (by rw [decide_eq_false c2]; rfl) ?_
          exact raise_rd (ErR.er h R1)
      · rw [if_neg fun q => c1 q.1] at h
        refine if_f (decide_eq_false c1) ?_
        refine ⟨_, rfl, if_t rfl ?_⟩
        exact raise_rd (ErR.er h R1)
theorem ok_choose (T : Txt K mg) {m j : Nat} (IH : Pr P w K mg base (L2.CX P w) j (He.ma K (aB K) "run") ["self", "body"] (spRun K m)) :
    Pr P w K mg base (L2.CX P w) (j + 1) (He.ma K (aB K) "run_choose") ["self", "statement"] (spChoose K m) := by
  refine T.m_run_choose.prX scChoose (fun _ _ _ _ _ _ us hl => match us, hl with | [_, _], _ => rfl) (fun vs H Q E h => ?_) (fun cdv A outer s H vs Q E hr h => ?_)
  · obtain ⟨n, F, A1, st, a, b, v, _, rfl, _⟩ := h
    rfl
  · obtain ⟨n, F, A1, st, a, b, v, rfl, rfl, fo, R, hs, wf, hl, h⟩ := h
    obtain ⟨p, q, r, rfl, ht, hba, hbb⟩ := hs
    refine ⟨_, (pss_cons (ps_set (i := 2) scChoose.nd rfl (Or.inl rfl) (pe_callTy call_dictD rfl (T.free _ (by decide +kernel)) (by decide +kernel) (pa_cons (pe_fld (pv 0) rfl) pa_nil)))
      (pss_cons (ps_set (i := 3) scChoose.nd rfl (Or.inl rfl) (pe_callTy call_dictD rfl (T.free _ (by decide +kernel)) (by decide +kernel) (pa_cons (pe_fld (pv 0) rfl) pa_nil)))
      (pss_cons (ps_set (i := 4) scChoose.nd rfl (Or.inl rfl) (pe_callTy call_list_of rfl (T.free _ (by decide +kernel)) (by decide +kernel) (pa_cons (pe_fld (pv 0) rfl) pa_nil)))
      (pss_cons (ps_set (i := 5) scChoose.nd rfl (Or.inl rfl) (pe_methP IH T.bC (T.bM _ (by decide +kernel)) hr (passX (takes_of rfl rfl rfl rfl)) (pv 0) (pa_cons (pe_ix ix_tup (pv 1) pe_int (fun _ _ => rfl)) pa_nil)))
      (pss_cons (ps_if (pt_cmpR op_ne (pv 5) pe_str (nomark _)) (pss_one (ps_ret (pv 5))) pss_nil)
      (pss_cons (ps_fld (pv 0) (pv 2) rfl)
      (pss_cons (ps_fld (pv 0) (pv 3) rfl)
      (pss_cons (ps_fld (pv 0) (pv 4) rfl)
      (pss_one (ps_ret (pe_methP IH T.bC (T.bM _ (by decide +kernel)) hr (passX (takes_of rfl rfl rfl rfl)) (pv 0) (pa_cons (pe_ix ix_tup (pv 1) pe_int (fun _ _ => rfl)) pa_nil)))))))))))), ?_⟩
    rw [ru_cho] at h
    obtain ⟨dx, z1, z2, z3, z4, z5, g1, g2, g3, n1, n2, n3⟩ := R.at_
    -- the copies
    refine ⟨_, rfl, F.self, _, dx, _, _, rfl, z1, T.bC, T.bN _ (by decide +kernel), bf_locals, A1.dl, _, rfl, .inl z2, fun p1 np1 => ?_⟩
    have k1 : Same H (upd H p1 (.dK (locK st.x st.y))) := sm_upd np1 _
    refine ⟨_, rfl, F.self, _, dx, _, _, rfl, k1 _ _ z1, T.bC, T.bN _ (by decide +kernel), bf_writes, A1.dw, _, rfl, .inl (k1 _ _ z4), fun p2 np2 => ?_⟩
    have k2 := k1.trans (sm_upd np2 (.dK (kvI st.writes)))
    refine ⟨_, rfl, F.self, _, dx, _, _, rfl, k2 _ _ z1, T.bC, T.bN _ (by decide +kernel), bf_later, A1.al, _, rfl, .inl (SqL.of (k2 _ _ z5)), fun p3 np3 => ?_⟩
    have k3 := k2.trans (sm_upd np3 (.lst (st.later.map V.int)))
    have N1 : H p1 = none := np1
    have N2 : H p2 = none := k1.free np2
    have N3 : H p3 = none := k2.free np3
    have p12 : p1 ≠ p2 := ne_of_none upd_same np2
    have p13 : p1 ≠ p3 := ne_of_none ((sm_upd np2 (.dK (kvI st.writes))) _ _ upd_same) np3
    have p23 : p2 ≠ p3 := ne_of_none upd_same np3
    -- the ground with the copies
    have GS : Same F.G (upd (upd (upd F.G p1 (.dK (locK st.x st.y))) p2 (.dK (kvI st.writes))) p3 (.lst (st.later.map V.int))) := fun c o e => by
      have e' := R.same _ _ e
      rw [upd_ne (ne_of_none e' N3), upd_ne (ne_of_none e' N2), upd_ne (ne_of_none e' N1)]
      exact e
    have GH : Same (upd (upd (upd F.G p1 (.dK (locK st.x st.y))) p2 (.dK (kvI st.writes))) p3 (.lst (st.later.map V.int))) (upd (upd (upd H p1 (.dK (locK st.x st.y))) p2 (.dK (kvI st.writes))) p3 (.lst (st.later.map V.int))) := sm_both (sm_both (sm_both R.same _ _) _ _) _ _
    have Gn : ∀ {x : Addr} {o : HO}, H x = some o → F.G x = none → (upd (upd (upd F.G p1 (.dK (locK st.x st.y))) p2 (.dK (kvI st.writes))) p3 (.lst (st.later.map V.int))) x = none := fun {x o} e e2 => by
      rw [upd_ne (ne_of_none e N3), upd_ne (ne_of_none e N2), upd_ne (ne_of_none e N1)]
      exact e2
    generalize hG : (upd (upd (upd F.G p1 (.dK (locK st.x st.y))) p2 (.dK (kvI st.writes))) p3 (.lst (st.later.map V.int))) = G at GS GH Gn
    have G1 : G p1 = some (.dK (locK st.x st.y)) := by rw [← hG, upd_ne p13, upd_ne p12, upd_same]
    have G2 : G p2 = some (.dK (kvI st.writes)) := by rw [← hG, upd_ne p23, upd_same]
    have G3 : G p3 = some (.lst (st.later.map V.int)) := by rw [← hG, upd_same]
    have fo2 : FxOk ⟨G, F.self, F.ac, F.am, F.dr, F.mem⟩ := ⟨fo.cells.mono GS, GS _ _ fo.memo, fo.mok, Gn z1 fo.gs, Gn z3 fo.gr⟩
    have R2 : RunAt K ⟨G, F.self, F.ac, F.am, F.dr, F.mem⟩ A1 (upd (upd (upd H p1 (.dK (locK st.x st.y))) p2 (.dK (kvI st.writes))) p3 (.lst (st.later.map V.int))) st :=
      ⟨GH, R.good, dx, k3 _ _ z1, k3 _ _ z2, k3 _ _ z3, k3 _ _ z4, k3 _ _ z5, Gn z2 g1, Gn z4 g2, Gn z5 g3, n1, n2, n3⟩
    -- back to the own ground
    have back : ∀ {A : Ad} {H' : Hp} {s1 : Stt}, RunAt K ⟨G, F.self, F.ac, F.am, F.dr, F.mem⟩ A H' s1 → RunAt K F A H' s1 := fun {A H' s1} R' => by
      obtain ⟨dx', y1, y2, y3, y4, y5, f1, f2, f3, r'⟩ := R'.at_
      exact ⟨GS.trans R'.same, R'.good, dx', y1, y2, y3, y4, y5, GS.free f1, GS.free f2, GS.free f3, r'⟩
    have backE : ∀ {r : Wd} {s1 : Stt}, ErR K F E r s1 → ErR K ⟨G, F.self, F.ac, F.am, F.dr, F.mem⟩ E r s1 := fun e A d H' R' q => e A d H' (back R') q
    have hc := cap_pos n
    have ec : cap (n + 1) = 60 * cap n := rfl
    have gd := (runB_good fo.mok (n := n) (b := a) wf.1.2 R.good).mono (Nat.mul_le_mul_right _ wf.1.1)
    -- the first list
    have opB : OP K ⟨G, F.self, F.ac, F.am, F.dr, F.mem⟩ Q E (Ch (runL (runS F.mem n) a st) fun s => runL (runS F.mem n) b { st with reads := s.reads }) := by
      revert h
      cases (Ch (runL (runS F.mem n) a st) fun s => runL (runS F.mem n) b { st with reads := s.reads }) with
      | mk o s1 => cases o with
        | done => exact fun h A H1 R' => h A H1 (back R')
        | retry => exact fun h A H1 R' => h A H1 (back R')
        | undo => exact fun h A H1 R' => h A H1 (back R')
        | fault r => exact fun h => backE h
    have ht3 := k3 _ _ (R.same _ _ ht)
    refine ⟨_, rfl, F.self, dx, _, rfl, k3 _ _ z1, bf_none (by decide +kernel), _, rfl, p, _, _, _, rfl, rfl, SqT.of ht3, a1, ⟨G, F.self, F.ac, F.am, F.dr, F.mem⟩, A1, st, a, q, rfl, fo2, R2, hba.mono GS (fun s v => SmAt.mono GS n s v), wf.1, by omega, OP.stepC opB (fun A3 s3 H3 e3 R3 => ?_) fun z H3 hz hq2 => ?_⟩
    · -- it retries: all is put back, then the second list
      refine ⟨_, rfl, rfl, _, rfl, if_f (by decide +kernel) ?_⟩
      rw [e3] at h gd
      obtain ⟨dx3, y1, y2, y3, y4, y5, f1, f2, f3, m1, m2, m3⟩ := R3.at_
      have s1 := R3.same _ _ G1
      have s2 := R3.same _ _ G2
      have s3' := R3.same _ _ G3
      have so : F.self ≠ p1 := ne_of y1 s1 (by intro z; cases z)
      have c0 : (6 : Nat) < 1000 := by decide
      refine ⟨_, rfl, _, rfl, F.self, _, dx3, _, rfl, y1, T.bC, T.bN _ (by decide +kernel), c0, ?_⟩
      rw [bf_put_locals]
      refine ⟨_, rfl, _, rfl, F.self, _, dx3, _, rfl, upd_same, T.bC, T.bN _ (by decide +kernel), c0, ?_⟩
      rw [bf_put_writes, upd_upd]
      refine ⟨_, rfl, _, rfl, F.self, _, dx3, _, rfl, upd_same, T.bC, T.bN _ (by decide +kernel), c0, ?_⟩
      rw [bf_put_later, upd_upd]
      have nself : ∀ {x : Addr} {o : HO}, H3 x = some o → (∀ C d f, o ≠ .ins C d f) → x ≠ F.self := fun {x o} e no z => by
        rw [z, y1] at e
        exact no _ _ _ (Option.some.inj e).symm
      have R4 : RunAt K F ⟨p1, p2, p3⟩ (upd H3 F.self (.ins (aB K) dx3 (bf p1 F.ac F.am F.dr p2 p3))) { st with reads := s3.reads } := by
        refine ⟨sm_put (GS.trans R3.same) fo.gs _, ⟨R.good.x, R.good.y, R3.good.r, R.good.w⟩, dx3, upd_same, ?_, ?_, ?_, ?_, R.same.free N1, R.same.free N2, R.same.free N3, ?_, p12, ?_⟩
        · rw [upd_ne (nself s1 (by intro _ _ _ z; cases z))]; exact s1
        · rw [upd_ne (nself y3 (by intro _ _ _ z; cases z))]; exact y3
        · rw [upd_ne (nself s2 (by intro _ _ _ z; cases z))]; exact s2
        · rw [upd_ne (nself s3' (by intro _ _ _ z; cases z))]; exact s3'
        · exact (ne_of_none z3 N1).symm
        · exact ne_of_none z3 N2
      have ht4 := R4.same _ _ ht
      exact ⟨_, rfl, F.self, dx3, _, rfl, upd_same, bf_none (by decide +kernel), _, rfl, p, _, _, _, rfl, rfl, SqT.of ht4, a2, F, _, _, b, r, rfl, fo, R4, hbb, wf.2, by have := gd.2; dsimp only; omega, h⟩
    · exact ⟨_, rfl, rfl, _, rfl, if_t (by rw [dS_f hz]; rfl) ⟨_, rfl, hq2⟩⟩
theorem ok_run_one (T : Txt K mg) {m j : Nat} (IHr : Pr P w K mg base (L2.CX P w) j (He.ma K (aB K) "run") ["self", "body"] (spRun K m)) (hj : 8 ≤ j) :
    Pr P w K mg base (L2.CX P w) (j + 2) (He.ma K (aB K) "run_one") ["self", "statement"] (spRunOne K m) := by
  have IHp := ok_repeat T IHr hj
  have IHc := ok_choose T IHr
  refine T.m_run_one.prX scRunOne (fun _ _ _ _ _ _ us hl => match us, hl with | [_, _], _ => rfl) (fun vs H Q E h => ?_) (fun cdv A outer s H vs Q E hr h => ?_)
  · obtain ⟨F, A1, st, m, v, rfl, _⟩ := h
    rfl
  · obtain ⟨F, A1, st, s0, v, rfl, fo, R, hs, wf, hl, h⟩ := h
    have hu := hu_of hr
    refine ⟨_, (pss_cons (ps_set (i := 2) scRunOne.nd rfl (Or.inl rfl) (pe_ix ix_tup (pv 1) pe_int (fun _ _ => rfl)))
      (pss_cons (ps_if (pt_cmpR op_in_seq (pv 2) (pe_tup (pa_cons pe_str (pa_cons pe_str pa_nil))) rfl) (pss_one (ps_ret (pv 2))) pss_nil)
      (pss_cons (ps_if (pt_cmpR op_eq (pv 2) pe_str (nomark _)) (pss_one (ps_dput hu (pe_fld (pv 0) rfl) (pe_ix ix_tup (pv 1) pe_int (fun _ _ => rfl)) (pe_methP (ok_value T 4) T.bC (T.bM _ (by decide +kernel)) (hr.mono (by omega)) (passX (takes_of rfl rfl rfl rfl)) (pv 0) (pa_cons (pe_ix ix_tup (pv 1) pe_int (fun _ _ => rfl)) pa_nil)) rfl)) pss_nil)
      (pss_cons (ps_if (pt_cmpR op_eq (pv 2) pe_str (nomark _)) (pss_cons (ps_set (i := 3) scRunOne.nd rfl (Or.inl rfl) (pe_methP (ok_value T 4) T.bC (T.bM _ (by decide +kernel)) (hr.mono (by omega)) (passX (takes_of rfl rfl rfl rfl)) (pv 0) (pa_cons (pe_ix ix_tup (pv 1) pe_int (fun _ _ => rfl)) pa_nil)))
      (pss_cons (ps_set (i := 4) scRunOne.nd rfl (Or.inl rfl) (pe_methP (ok_value T 4) T.bC (T.bM _ (by decide +kernel)) (hr.mono (by omega)) (passX (takes_of rfl rfl rfl rfl)) (pv 0) (pa_cons (pe_ix ix_tup (pv 1) pe_int (fun _ _ => rfl)) pa_nil)))
      (pss_one (ps_dput hu (pe_fld (pv 0) rfl) (pe_callP (ok_cellNo T) (hr.mono (by omega)) rfl (T.glo _ (by decide +kernel)) (passX (takes_of rfl rfl rfl rfl)) (pa_cons (pe_fld (pv 0) rfl) (pa_cons (pe_ix ix_tup (pv 1) pe_int (fun _ _ => rfl)) (pa_cons (pv 3) pa_nil)))) (pv 4) rfl)))) pss_nil)
      (pss_cons (ps_if (pt_cmpR op_eq (pv 2) pe_str (nomark _)) (pss_one (ps_expr (pe_bm PySem.F.plainAttrs_list PySem.F.slot_list_append PySem.F.type_list_append mt_append (pe_fld (pv 0) rfl) (pa_cons (pe_methP (ok_value T 4) T.bC (T.bM _ (by decide +kernel)) (hr.mono (by omega)) (passX (takes_of rfl rfl rfl rfl)) (pv 0) (pa_cons (pe_ix ix_tup (pv 1) pe_int (fun _ _ => rfl)) pa_nil)) pa_nil)))) pss_nil)
      (pss_cons (ps_if (pt_cmpR op_eq (pv 2) pe_str (nomark _)) (pss_one (ps_ret (pe_methP IHr T.bC (T.bM _ (by decide +kernel)) (hr.mono (by omega)) (passX (takes_of rfl rfl rfl rfl)) (pv 0) (pa_cons (pe_ifExp (pt_cmpR op_ne (pe_methP (ok_value T 4) T.bC (T.bM _ (by decide +kernel)) (hr.mono (by omega)) (passX (takes_of rfl rfl rfl rfl)) (pv 0) (pa_cons (pe_ix ix_tup (pv 1) pe_int (fun _ _ => rfl)) pa_nil)) pe_int (nomark _)) (pe_ix ix_tup (pv 1) pe_int (fun _ _ => rfl)) (pe_ix ix_tup (pv 1) pe_int (fun _ _ => rfl))) pa_nil)))) pss_nil)
      (pss_cons (ps_if (pt_cmpR op_eq (pv 2) pe_str (nomark _)) (pss_one (ps_ret (pe_methP IHp T.bC (T.bM _ (by decide +kernel)) hr (passX (takes_of rfl rfl rfl rfl)) (pv 0) (pa_cons (pv 1) pa_nil)))) pss_nil)
      (pss_cons (ps_if (pt_cmpR op_eq (pv 2) pe_str (nomark _)) (pss_one (ps_ret (pe_methP IHc T.bC (T.bM _ (by decide +kernel)) hr (passX (takes_of rfl rfl rfl rfl)) (pv 0) (pa_cons (pv 1) pa_nil)))) pss_nil)
      (pss_one (ps_ret pe_str)))))))))), ?_⟩
    have gE := evE_good fo.mok
    have valV : ∀ (e' : Ex) (u : V) (st' : Stt) (A' : Ad) (H1 : Hp) (Q' : VK) (te : TE) (σ : L2.St), exD e' ≤ 3 → ExAt F.G e' u → RunAt K F A' H1 st' → (∀ R : VK, R u H1 → te σ H1 R) → RP K F A' Q' E (evE F.mem e' st') →
        ∃ a dx fs, V.ref F.self = .ref a ∧ H1 a = some (.ins (aB K) dx fs) ∧ fs.lookup ("value" : Str) = none ∧ tCons te tNil σ H1 fun vs H2 => spValue K 4 (V.ref F.self :: (vs ++ [])) H2 Q' E := fun e' u st' A' H1 Q' te σ d1 a1 R1 i1 k1 => by
      obtain ⟨dx, z1, _⟩ := R1.at_
      exact ⟨F.self, dx, _, rfl, z1, bf_none (by decide +kernel), i1 _ ⟨F, A', st', e', u, rfl, fo, R1, a1, by omega, k1⟩⟩
    have hcap := cap_pos m
    cases s0 with
    | retry =>
      rw [ru_retry] at h
      obtain ⟨p, rfl, ht⟩ : ∃ a, v = .ref a ∧ F.G a = some (.tup [.str "retry"]) := by cases m <;> exact hs
      have ht1 := R.same _ _ ht
      refine ⟨_, rfl, p, _, _, _, rfl, rfl, SqT.of ht1, a0, _, rfl, two_line, fun pt npt => ⟨pt, _, rfl, .inr (SqT.of upd_same), rfl, rfl, _, rfl, if_t (by decide +kernel) ?_⟩⟩
      exact ⟨_, rfl, h _ _ (R.keep (sm_upd npt _))⟩
    | undo =>
      rw [ru_undo] at h
      obtain ⟨p, rfl, ht⟩ : ∃ a, v = .ref a ∧ F.G a = some (.tup [.str "undo"]) := by cases m <;> exact hs
      have ht1 := R.same _ _ ht
      refine ⟨_, rfl, p, _, _, _, rfl, rfl, SqT.of ht1, a0, _, rfl, two_line, fun pt npt => ⟨pt, _, rfl, .inr (SqT.of upd_same), rfl, rfl, _, rfl, if_t (by decide +kernel) ?_⟩⟩
      exact ⟨_, rfl, h _ _ (R.keep (sm_upd npt _))⟩
    | set l e =>
      rw [ru_set] at h
      obtain ⟨p, u, rfl, ht, he, hd⟩ : ∃ a u, v = .ref a ∧ F.G a = some (.tup [.str "set", .str (lcS l), u]) ∧ ExAt F.G e u ∧ exD e ≤ 3 := by cases m <;> exact hs
      have ht1 := R.same _ _ ht
      refine ⟨_, rfl, p, _, _, _, rfl, rfl, SqT.of ht1, a0, _, rfl, two_line, fun pt npt => ⟨pt, _, rfl, .inr (SqT.of upd_same), rfl, rfl, _, rfl, if_f (by decide +kernel) ?_⟩⟩
      have R0 := R.keep (sm_upd npt (.tup [.str "retry", .str "undo"]))
      have ht2 := R0.same _ _ ht
      refine ⟨_, rfl, rfl, _, rfl, st_t (by decide +kernel) ?_⟩
      refine ⟨_, rfl, valV e u st A1 _ _ _ _ hd he R0 (fun R9 z => ⟨_, rfl, p, _, _, _, rfl, rfl, SqT.of ht2, a2, z⟩) (RP.stepO (gE e st R.good) h fun v s1 H1 ov el R1 h1 => ?_)⟩
      obtain ⟨dx, z1, z2, z3, z4, z5, g1, g2, g3, n1, n2, n3⟩ := R1.at_
      have ht3 := R1.same _ _ ht
      refine ⟨_, rfl, F.self, _, dx, _, _, rfl, z1, T.bC, T.bN _ (by decide +kernel), bf_locals, _, rfl, p, _, _, _, rfl, rfl, SqT.of ht3, a1, A1.dl, _, rfl, DPut.k (k := Sum.inr (lcS l)) z2 (by show 2 < sizeLine; decide), ?_⟩
      rw [locK_put]
      refine ⟨_, rfl, rfl, _, rfl, st_f (by decide +kernel) ⟨_, rfl, rfl, _, rfl, st_f (by decide +kernel) ⟨_, rfl, rfl, _, rfl, st_f (by decide +kernel) ⟨_, rfl, rfl, _, rfl, st_f (by decide +kernel) ⟨_, rfl, rfl, _, rfl, st_f (by decide +kernel) ?_⟩⟩⟩⟩⟩
      refine h1 A1 _ ⟨sm_put R1.same g1 _, R1.good.setL ov, dx, ?_, ?_, ?_, ?_, ?_, g1, g2, g3, n1, n2, n3⟩
      · rw [upd_ne (ne_of z1 z2 (by intro z; cases z))]; exact z1
      · exact upd_same
      · rw [upd_ne (Ne.symm n1)]; cases l <;> exact z3
      · rw [upd_ne (Ne.symm n2)]; cases l <;> exact z4
      · rw [upd_ne (ne_of z5 z2 (by intro z; cases z))]; cases l <;> exact z5
    | put c i e =>
      rw [ru_put] at h
      obtain ⟨p, u, u2, rfl, ht, ⟨hi, hid⟩, he, hd⟩ : ∃ a u w, v = .ref a ∧ F.G a = some (.tup [.str "put", .str (nmS c), u, w]) ∧ (ExAt F.G i u ∧ exD i ≤ 3) ∧ ExAt F.G e w ∧ exD e ≤ 3 := by cases m <;> exact hs
      have ht1 := R.same _ _ ht
      refine ⟨_, rfl, p, _, _, _, rfl, rfl, SqT.of ht1, a0, _, rfl, two_line, fun pt npt => ⟨pt, _, rfl, .inr (SqT.of upd_same), rfl, rfl, _, rfl, if_f (by decide +kernel) ?_⟩⟩
      have R0 := R.keep (sm_upd npt (.tup [.str "retry", .str "undo"]))
      have ht2 := R0.same _ _ ht
      refine ⟨_, rfl, rfl, _, rfl, st_f (by decide +kernel) ⟨_, rfl, rfl, _, rfl, st_t (by decide +kernel) ?_⟩⟩
      refine ⟨_, rfl, valV i u st A1 _ _ _ _ hid hi R0 (fun R9 z => ⟨_, rfl, p, _, _, _, rfl, rfl, SqT.of ht2, a2, z⟩) (RP.stepO (gE i st R.good) h fun v s1 H1 ov el R1 h1 => ?_)⟩
      have ht3 := R1.same _ _ ht
      refine ⟨_, rfl, valV e u2 s1 A1 _ _ _ _ hd he R1 (fun R9 z => ⟨_, rfl, p, _, _, _, rfl, rfl, SqT.of ht3, a3, z⟩) (RP.stepO (gE e s1 R1.good) h1 fun z s2 H2 oz el2 R2 h2 => ?_)⟩
      obtain ⟨dx, z1, z2, z3, z4, z5, g1, g2, g3, n1, n2, n3⟩ := id R2.at_
      have ht4 := R2.same _ _ ht
      refine ⟨_, rfl, _, rfl, F.self, _, dx, _, _, rfl, z1, T.bC, T.bN _ (by decide +kernel), bf_writes, ?_⟩
      refine ⟨_, rfl, F.self, _, dx, _, _, rfl, z1, T.bC, T.bN _ (by decide +kernel), bf_cells, _, rfl, p, _, _, _, rfl, rfl, SqT.of ht4, a1, _, rfl, F.ac, c, v, rfl, fo.cells.mono R2.same, fun hk H3 s3 => ?_, fun hk => ?_⟩
      · rw [if_pos hk] at h2
        obtain ⟨k0, k6⟩ := first_size c hk.1 hk.2
        refine ⟨A1.dw, _, rfl, DPut.k (k := Sum.inl (firstOf c + v)) (s3 _ _ z4) (kvI_line R2.good.w), ?_⟩
        rw [putK_kv]
        refine ⟨_, rfl, rfl, _, rfl, st_f (by decide +kernel) ⟨_, rfl, rfl, _, rfl, st_f (by decide +kernel) ⟨_, rfl, rfl, _, rfl, st_f (by decide +kernel) ⟨_, rfl, rfl, _, rfl, st_f (by decide +kernel) ?_⟩⟩⟩⟩
        refine h2 A1 _ ⟨sm_put (R2.same.trans s3) g2 _, ⟨R2.good.x, R2.good.y, R2.good.r, R2.good.w.put k0 k6 oz⟩, dx, ?_, ?_, ?_, ?_, ?_, g1, g2, g3, n1, n2, n3⟩
        · rw [upd_ne (ne_of z1 z4 (by intro z; cases z))]; exact s3 _ _ z1
        · rw [upd_ne n2]; exact s3 _ _ z2
        · rw [upd_ne n3]; exact s3 _ _ z3
        · exact upd_same
        · rw [upd_ne (ne_of z5 z4 (by intro z; cases z))]; exact s3 _ _ z5
      · rw [if_neg hk] at h2
        exact ErR.er h2 R2
    | later e =>
      rw [ru_later] at h
      obtain ⟨p, u, rfl, ht, he, hd⟩ : ∃ a u, v = .ref a ∧ F.G a = some (.tup [.str "later", u]) ∧ ExAt F.G e u ∧ exD e ≤ 3 := by cases m <;> exact hs
      have ht1 := R.same _ _ ht
      refine ⟨_, rfl, p, _, _, _, rfl, rfl, SqT.of ht1, a0, _, rfl, two_line, fun pt npt => ⟨pt, _, rfl, .inr (SqT.of upd_same), rfl, rfl, _, rfl, if_f (by decide +kernel) ?_⟩⟩
      have R0 := R.keep (sm_upd npt (.tup [.str "retry", .str "undo"]))
      have ht2 := R0.same _ _ ht
      obtain ⟨dx0, y1, y2, y3, y4, y5, _⟩ := id R0.at_
      refine ⟨_, rfl, rfl, _, rfl, st_f (by decide +kernel) ⟨_, rfl, rfl, _, rfl, st_f (by decide +kernel) ⟨_, rfl, rfl, _, rfl, st_t (by decide +kernel) ?_⟩⟩⟩
      refine ⟨_, rfl, F.self, _, dx0, _, _, rfl, y1, T.bC, T.bN _ (by decide +kernel), bf_later, .inl ⟨rfl, _, SqL.of y5⟩, _, rfl, valV e u st A1 _ _ _ _ hd he R0 (fun R9 z => ⟨_, rfl, p, _, _, _, rfl, rfl, SqT.of ht2, a1, z⟩) (RP.stepO (gE e st R.good) h fun v s1 H1 ov el R1 h1 => ?_)⟩
      obtain ⟨dx, z1, z2, z3, z4, z5, g1, g2, g3, n1, n2, n3⟩ := id R1.at_
      have ll := len_eq el
      refine ⟨A1.al, _, _, rfl, rfl, z5, by rw [List.length_map]; exact small_line (by omega), ?_⟩
      refine ⟨_, rfl, rfl, _, rfl, st_f (by decide +kernel) ⟨_, rfl, rfl, _, rfl, st_f (by decide +kernel) ⟨_, rfl, rfl, _, rfl, st_f (by decide +kernel) ?_⟩⟩⟩
      refine h1 A1 _ ⟨sm_put R1.same g3 _, ⟨R1.good.x, R1.good.y, R1.good.r, R1.good.w⟩, dx, ?_, ?_, ?_, ?_, ?_, g1, g2, g3, n1, n2, n3⟩
      · rw [upd_ne (ne_of z1 z5 (by intro z; cases z))]; exact z1
      · rw [upd_ne (ne_of z2 z5 (by intro z; cases z))]; exact z2
      · rw [upd_ne (ne_of z3 z5 (by intro z; cases z))]; exact z3
      · rw [upd_ne (ne_of z4 z5 (by intro z; cases z))]; exact z4
      · show upd H1 A1.al (.lst (s1.later.map V.int ++ [.int v])) A1.al = some (.lst ((s1.later ++ [v]).map V.int))
        rw [upd_same, List.map_append]
        rfl
    | ite c a b =>
      cases m with
      | zero => exact wf.elim
      | succ n =>
        rw [ru_ite] at h
        obtain ⟨p, u, q, r, rfl, ht, ⟨hc, hcd⟩, hba, hbb⟩ := hs
        have ht1 := R.same _ _ ht
        refine ⟨_, rfl, p, _, _, _, rfl, rfl, SqT.of ht1, a0, _, rfl, two_line, fun pt npt => ⟨pt, _, rfl, .inr (SqT.of upd_same), rfl, rfl, _, rfl, if_f (by decide +kernel) ?_⟩⟩
        have R0 := R.keep (sm_upd npt (.tup [.str "retry", .str "undo"]))
        have ht2 := R0.same _ _ ht
        obtain ⟨dx0, y1, _⟩ := id R0.at_
        have ec : cap (n + 1) = 60 * cap n := rfl
        have hc1 := cap_pos n
        refine ⟨_, rfl, rfl, _, rfl, st_f (by decide +kernel) ⟨_, rfl, rfl, _, rfl, st_f (by decide +kernel) ⟨_, rfl, rfl, _, rfl, st_f (by decide +kernel) ⟨_, rfl, rfl, _, rfl, st_t (by decide +kernel) ?_⟩⟩⟩⟩
        refine ⟨_, rfl, F.self, dx0, _, rfl, y1, bf_none (by decide +kernel), _, rfl, valV c u st A1 _ _ _ _ hcd hc R0 (fun R9 z => ⟨_, rfl, p, _, _, _, rfl, rfl, SqT.of ht2, a1, z⟩) (RP.stepO (gE c st R.good) h fun v s1 H1 ov el R1 h1 => ?_)⟩
        have ht3 := R1.same _ _ ht
        have ll := len_eq el
        refine ⟨rfl, _, rfl, n1 (fun e => ?_) fun e => ?_⟩
        · rw [if_pos e] at h1
          exact ⟨_, rfl, p, _, _, _, rfl, rfl, SqT.of ht3, a3, F, A1, s1, b, r, rfl, fo, R1, hbb, wf.2, by omega, h1⟩
        · rw [if_neg e] at h1
          exact ⟨_, rfl, p, _, _, _, rfl, rfl, SqT.of ht3, a2, F, A1, s1, a, q, rfl, fo, R1, hba, wf.1, by omega, h1⟩
    | rep c a =>
      cases m with
      | zero => exact wf.elim
      | succ n =>
        obtain ⟨p, u, q, rfl, ht, hr1⟩ := id hs
        have ht1 := R.same _ _ ht
        refine ⟨_, rfl, p, _, _, _, rfl, rfl, SqT.of ht1, a0, _, rfl, two_line, fun pt npt => ⟨pt, _, rfl, .inr (SqT.of upd_same), rfl, rfl, _, rfl, if_f (by decide +kernel) ?_⟩⟩
        have R0 := R.keep (sm_upd npt (.tup [.str "retry", .str "undo"]))
        obtain ⟨dx0, y1, _⟩ := id R0.at_
        refine ⟨_, rfl, rfl, _, rfl, st_f (by decide +kernel) ⟨_, rfl, rfl, _, rfl, st_f (by decide +kernel) ⟨_, rfl, rfl, _, rfl, st_f (by decide +kernel) ⟨_, rfl, rfl, _, rfl, st_f (by decide +kernel) ⟨_, rfl, rfl, _, rfl, st_t (by decide +kernel) ?_⟩⟩⟩⟩⟩
        exact ⟨_, rfl, F.self, dx0, _, rfl, y1, bf_none (by decide +kernel), _, rfl, n, F, A1, st, c, a, _, rfl, rfl, fo, R0, hs, wf, hl, h⟩
    | cho a b =>
      cases m with
      | zero => exact wf.elim
      | succ n =>
        obtain ⟨p, q, r, rfl, ht, hr1⟩ := id hs
        have ht1 := R.same _ _ ht
        refine ⟨_, rfl, p, _, _, _, rfl, rfl, SqT.of ht1, a0, _, rfl, two_line, fun pt npt => ⟨pt, _, rfl, .inr (SqT.of upd_same), rfl, rfl, _, rfl, if_f (by decide +kernel) ?_⟩⟩
        have R0 := R.keep (sm_upd npt (.tup [.str "retry", .str "undo"]))
        obtain ⟨dx0, y1, _⟩ := id R0.at_
        refine ⟨_, rfl, rfl, _, rfl, st_f (by decide +kernel) ⟨_, rfl, rfl, _, rfl, st_f (by decide +kernel) ⟨_, rfl, rfl, _, rfl, st_f (by decide +kernel) ⟨_, rfl, rfl, _, rfl, st_f (by decide +kernel) ⟨_, rfl, rfl, _, rfl, st_f (by decide +kernel) ⟨_, rfl, rfl, _, rfl, st_t (by decide +kernel) ?_⟩⟩⟩⟩⟩⟩
        exact ⟨_, rfl, F.self, dx0, _, rfl, y1, bf_none (by decide +kernel), _, rfl, n, F, A1, st, a, b, _, rfl, rfl, fo, R0, hs, wf, hl, h⟩
/-- run, for lists nested less than m deep -/
theorem ok_run (T : Txt K mg) : ∀ m : Nat, Pr P w K mg base (L2.CX P w) (8 + 3 * m) (He.ma K (aB K) "run") ["self", "body"] (spRun K m)
  | 0 => bind2 T.m_run (fun _ _ _ _ _ _ us hl => match us, hl with | [_, _], _ => rfl) fun _ _ _ _ z => z
  | m + 1 => (ok_run_step T (ok_run_one T (ok_run T m) (by omega))).mono (by omega)
end
end K13
set_option Elab.async false
set_option linter.all false
set_option maxRecDepth 100000
set_option maxHeartbeats 4000000
/-! K13Any: defs that may be called while an error is handled, too; Outcome, ended. -/
namespace K13
open PySem PySem.Spec PyProof.Rows L2
open L2H (RoomH roomH_of)
/-- such a def keeps a promise wherever it is called; nothing is let out -/
structure FnA (P : Program) (w : World) (K : PySem.W.Frag) (mg : Str → Option Value) (base : Heap) (k : Nat) (f : Addr) (fd : FuncData) (ps : List Str) (sp : Sp) : Prop where
  lng : ∀ vs H Q, sp vs H Q E0 → vs.length = ps.length
  goes : ∀ (A : Around) (out : List Env) (s : Shared) (H : Hp) (ar : Args) (us : List Value) (vs : List V) (Q : VK), RoomH k A → Env0 P w K mg base A out s H → BindsTo s fd ar (ps.zip us) → Vals vs us → sp vs H Q E0 →
    codeAny (model P w) A (.call (.ref f) ar) (CR CX0 out P w H s Q E0) s
/-- the context of such a body -/
def cxA (P : Program) (w : World) (K : PySem.W.Frag) (mg : Str → Option Value) (base : Heap) (N : List Str) (qual : Str) (sc : Scope) (f : Addr) (cd : Value) (A : Around) (out : List Env) (s : Shared) (H : Hp) : Cx :=
  { cxOf CX0 P w K mg base N qual sc f cd A out s H E0 with calm := false, xe := fun _ _ => False }
theorem RoomH.down {k : Nat} {A : Around} (r : RoomH (k + 1) A) (env : Env) : RoomH k (A.deeper env) := L2H.RoomH.deeper r env
theorem roomH_make {k : Nat} {A : Around} (r : RoomH (k + 1) A) (C : Addr) (us : List Value) (kw : List (Str × Value)) : RoomH k (A.under (.builtin "type.__call__" ⟨.ref C :: us, kw⟩)) :=
  ⟨by have h := r.dp; rw [make_depth]; omega, by have h := r.un; rw [make_units]; omega⟩
section
variable {P : Program} {w : World} {K : PySem.W.Frag} {mg : Str → Option Value} {base : Heap}
theorem FnA.ok {k : Nat} {f : Addr} {fd : FuncData} {ps : List Str} {sp : Sp} (h : FnA P w K mg base k f fd ps (fun vs H Q _ => sp vs H Q E0)) : FnOk P w K mg base CX0 k f fd ps (fun vs H Q _ => sp vs H Q E0) :=
  ⟨fun vs H Q _ q => h.lng vs H Q q, fun A out s H ar us vs Q E r e b v q => by
    refine codeAny_mono (h.goes A out s H ar us vs Q (roomH_of r) e b v q) fun r s' z => ?_
    cases r with
    | error e => exact z
    | ok fl => cases fl <;> exact z⟩
theorem FunD.okA {x qual : Str} {params : Arguments} {body : List Stmt} {sc : Scope} {dvs : List V} {kws : List (Str × V)} {f : Addr} {fd : FuncData} {N ps : List Str} {k : Nat} {sp : Sp} (F : FunD K x qual params body sc dvs kws f fd) (S : FnScope N ps sc)
    (lng : ∀ vs H Q, sp vs H Q E0 → vs.length = ps.length)
    (bd : ∀ (cdv : Value) (A : Around) (out : List Env) (s : Shared) (H : Hp) (vs : List V) (Q : VK), RoomH k (A.deeper (envOfC qual sc s.heap.objs.size f cdv)) → sp vs H Q E0 →
      ∃ t, PSs (cxA P w K mg base N qual sc f cdv A out s H) body t ∧ t { nx := fun _ H' => Q .non H', rt := Q } (start N vs) H) : FnA P w K mg base (k + 1) f fd ps sp := by
  obtain ⟨oc, od, dV, kV, doc, pm, an, cdv, ct, osl, rfl, lk, hcd, _, _⟩ := F.ex
  constructor
  · exact lng
  intro A out s H ar us vs Q hr e0 hb r hsp
  have e1 : Env0 P w K mg base { A with handled := none } out s H := ⟨e0.frames, e0.mod, e0.bs, e0.bsz, e0.funs, e0.frf, e0.hok, e0.bare⟩
  have KX : K.In s.heap := e0.mod.kin.keeps fun b o e => (e0.bs b o e).1
  have kinds : ∀ y ∈ ps.zip us, sc.names.lookup y.1 = some .local ∨ (sc.names.lookup y.1 = some .cell ∧ ((cellsFrom (s.heap.objs.size + 1) sc.names []).lookup y.1).isSome = true) := by
    rintro ⟨n, v⟩ hy
    exact (S.par n (List.of_mem_zip hy).1).elim .inl fun q => .inr ⟨q, PySem.W.cellsFrom_some _ _ _ (.inl q)⟩
  refine codeAny_call_function (L2H.RoomH.depth hr) (KX _ _ lk) rfl S.co S.gen rfl (PySem.W.codeRec_of KX hcd) ?_
  refine hb _ _ _ _ (wpAny_newFunctionEnv_cells S.kind kinds fun env he s1 x => ?_)
  subst he
  refine ⟨(e0.mod.nolimit.keeps fun b o e => (e0.bs b o e).1).keeps x.toInCall.keep, codeAny_func ?_⟩
  obtain ⟨t, ht, hq⟩ := bd cdv A out s H vs Q (RoomH.down hr _) hsp
  have J := inv_start (CX := CX0) (E := E0) (qual := qual) (f := f) (cd := cdv) S (A := { A with handled := none }) rfl e1 (lng _ _ _ hsp) r x
  have I : Inv (cxA P w K mg base N qual sc f cdv A out s H) [] (start N vs) H s1 :=
    ⟨⟨J.ok.mod, J.ok.kind, J.ok.glob, J.ok.blt, J.ok.above, J.ok.inj, J.ok.has, J.ok.cab, (fun z => absurd (show false = true from z) Bool.false_ne_true), Around.frames_deeper e0.frames, .inr ⟨rfl, rfl⟩, J.ok.exf, J.ok.bs, J.ok.bsz, J.ok.noex, J.ok.exfs, J.ok.funs, J.ok.frf⟩,
      J.os, J.bare, J.base, J.loc, J.cell, J.free, J.freeC, J.pin, J.hok, J.len⟩
  refine wpAny_mono (ht.run [] s1 _ H _ I hq) (fun fl s' hs => ?_) fun _ _ z => False.elim z
  cases fl with
  | ret u =>
    obtain ⟨v, σ', H', I', rv, q⟩ := hs
    exact ⟨v, H', I'.os, I'.bare, I'.base, I'.hok, rv, q⟩
  | next =>
    obtain ⟨σ', H', I', q⟩ := hs
    exact ⟨.non, H', I'.os, I'.bare, I'.base, I'.hok, rfl, q⟩
  | brk => exact hs.elim fun _ z => z.elim fun _ z => z.2.elim
  | cont => exact hs.elim fun _ z => z.elim fun _ z => z.2.elim
section
variable {X : Cx} {k n : Nat} {f C : Addr} {fd : FuncData} {ps ks : List Str} {sp : Sp} {x : Str} {p pos : Pos} {e : Expr} {es : List Expr} {kws : List Keyword} {t tk : TA} {dvs : List V} {ds : List Value} {g : List Value → List Value → List Value} {gV : List V → List V → List V}
theorem CE_EP {pins : List (Addr × Obj)} {σ : L2.St} {H : Hp} {s : Shared} {Q : VK} (I : Inv X pins σ H s) : ∀ (r : Result) (s' : Shared), CR CX0 X.stack X.prog X.w H s Q E0 r s' → (match r with
    | .ok (.ret v) => EP X pins σ Q v s'
    | _ => False)
  | .error _, _, z => z
  | .ok (.ret _), _, z => I.after z
  | .ok .next, _, z => z
  | .ok .brk, _, z => z
  | .ok .cont, _, z => z
/-- f(e, ..) -/
theorem pe_callA (F : FnA X.prog X.w X.K X.mg X.base k f fd ps sp) (hr : RoomH k X.A) (hg : Gl X x) (hm : X.mg x = some (.ref f)) (hk : PySem.W.keepIn X.K (.ref f) = true) (hb : Binds X.K fd ps ds) (hd : Vals dvs ds)
    (ha : PA X (e :: es) t) (hdb : (x == ("__debug__" : Str)) = false := by decide) (he : starEach (e :: es) X.env = (false, eval e X.env) :: starEach es X.env := by rfl) (hpl : (backTo pos (starEach es X.env)).any (·.1) = false := by rfl) :
    PE X (.Call (.Name x p) (e :: es) [] pos) (tCall sp dvs E0 t) := by
  constructor
  intro pins s σ H Q I h
  refine wpAny_Call_Name_kw (ld_glob I hg hm (PySem.W.callWith_K (h₀ := X.base) I.ok.mod.kin hk (thn (ha.run pos pins s σ H _ I h) fun us s1 hh => ?_) he hpl) hdb)
  obtain ⟨vs, H1, I1, r, q⟩ := hh
  have r2 : Vals (vs ++ dvs) (us ++ ds) := r.append hd
  have hl : (us ++ ds).length = ps.length := r2.length.symm.trans (F.lng _ _ _ q)
  refine ⟨I1.kIn, wpAny_call (codeAny_mono (F.goes _ _ _ _ _ _ _ _ hr I1.env0 (hb s1 us I1.kIn hl) r2 q) fun r s' z => ?_)⟩
  have y := CE_EP I1 r s' z
  cases r with
  | error _ => exact y.elim
  | ok fl => cases fl <;> exact y
/-- C(e, .., k = v, ..) -/
theorem pe_makeKA (M : Mk X.K C f) (F : FnA X.prog X.w X.K X.mg X.base k f fd ps sp) (hr : RoomH (k + 1) X.A) (hg : Gl X x) (hm : X.mg x = some (.ref C)) (hb : KBn X.K fd ps (n + 1) ks g gV) (ha : PA X (e :: es) t) (hkw : PK X kws tk)
    (hall : (backToKw pos (keywordEach kws X.env)).all (·.1.isSome) = true := by rfl) (hks : (backToKw pos (keywordEach kws X.env)).filterMap (·.1) = ks := by rfl) (hdb : (x == ("__debug__" : Str)) = false := by decide)
    (he : starEach (e :: es) X.env = (false, eval e X.env) :: starEach es X.env := by rfl) (hpl : ((backTo pos (starEach (e :: es) X.env)).any (·.1) || (backToKw pos (keywordEach kws X.env)).any (·.1.isNone)) = false := by rfl) :
    PE X (.Call (.Name x p) (e :: es) kws pos) (tMakeK C n ks.length sp gV E0 t tk) := by
  constructor
  intro pins s σ H Q I h
  refine wpAny_Call_Name_kw (ld_glob I hg hm (PySem.W.callWith_KW (h₀ := X.base) I.ok.mod.kin M.kp hall (thn (ha.run pos pins s σ H _ I h) fun us s1 hh => ?_) hpl he) hdb)
  obtain ⟨vs, H1, I1, r, q⟩ := hh
  refine thn (hkw.run pos pins s1 σ H1 _ I1 q) fun ws s2 hh2 => ?_
  obtain ⟨zs, H2, I2, rz, l1, l2, q2⟩ := hh2
  refine ⟨I2.kIn, ?_⟩
  rw [hks]
  have fr := I2.hok.fresh (Nat.le_refl s2.heap.objs.size)
  have fr1 := I2.hok.fresh (Nat.le_succ s2.heap.objs.size)
  have q3 := q2 (s2.heap.objs.size + 1) s2.heap.objs.size fr1 fr (Nat.ne_of_lt (Nat.lt_succ_self _))
  have I3 := Inv.made (C := C) I2
  have r1 : Vals (V.ref (s2.heap.objs.size + 1) :: vs) (Value.ref (s2.heap.objs.size + 1) :: us) := .cons rfl r
  have n1 : (Value.ref (s2.heap.objs.size + 1) :: us).length = n + 1 := r1.length.symm.trans (congrArg Nat.succ l1)
  refine wpAny_call (make_map (f := f) I2.kIn M.makes M.init (beq_iff_eq.mp M.fn) (codeAny_mono (F.goes _ X.stack _ _ ⟨Value.ref (s2.heap.objs.size + 1) :: us, ks.zip ws⟩ _ _ _ (roomH_make hr C us (ks.zip ws)) (I3.env0.make C us (ks.zip ws))
    (hb.to _ _ ws I3.kIn n1 (rz.length.symm.trans l2)) (hb.rel r1 rz) q3) fun r s' z => ?_))
  have y := CE_EP I3 r s' z
  cases r with
  | error _ => exact y.elim
  | ok fl =>
    cases fl with
    | ret u =>
      obtain ⟨v, H', I4, rv, ev, q4⟩ := y
      subst ev
      exact ⟨rv, ⟨V.ref (s2.heap.objs.size + 1), H', I4, rfl, q4⟩⟩
    | next => exact y.elim
    | brk => exact y.elim
    | cont => exact y.elim
end
/-! ### Outcome -/
abbrev aO (K : PySem.W.Frag) : Addr := He.ga K "Outcome"
theorem putF_new {f : Str} {v : V} : ∀ {fs : List (Str × V)} (ks : List Str), fs.map (·.1) = ks → ks.all (fun g => !(g == f)) = true → putF f v fs = fs ++ [(f, v)]
  | [], _, _, _ => rfl
  | p :: r, ks, h1, h2 => by
    subst h1
    rw [List.map_cons, List.all_cons, Bool.and_eq_true] at h2
    obtain ⟨q1, q2⟩ := h2
    have ne : ¬ p.1 = f := by simpa using q1
    obtain ⟨p1, p2⟩ := p
    show (if p1 = f then _ else _) = _
    rw [if_neg ne, putF_new _ rfl q2]
    rfl
def of_ (k : V) (r w' f l : Addr) (z : V) : List (Str × V) := [("kind", k), ("reads", .ref r), ("writes", .ref w'), ("finals", .ref f), ("later", .ref l), ("reason", z)]
section
variable {k z : V} {r w' f l : Addr}
theorem of_kind : (of_ k r w' f l z).lookup ("kind" : Str) = some k := lk_here
theorem of_reads : (of_ k r w' f l z).lookup ("reads" : Str) = some (.ref r) := (lk_past (by decide +kernel)).trans lk_here
theorem of_writes : (of_ k r w' f l z).lookup ("writes" : Str) = some (.ref w') := (lk_past (by decide +kernel)).trans ((lk_past (by decide +kernel)).trans lk_here)
theorem of_finals : (of_ k r w' f l z).lookup ("finals" : Str) = some (.ref f) := (lk_past (by decide +kernel)).trans ((lk_past (by decide +kernel)).trans ((lk_past (by decide +kernel)).trans lk_here))
theorem of_later : (of_ k r w' f l z).lookup ("later" : Str) = some (.ref l) := (lk_past (by decide +kernel)).trans ((lk_past (by decide +kernel)).trans ((lk_past (by decide +kernel)).trans ((lk_past (by decide +kernel)).trans lk_here)))
theorem of_reason : (of_ k r w' f l z).lookup ("reason" : Str) = some z := (lk_past (by decide +kernel)).trans ((lk_past (by decide +kernel)).trans ((lk_past (by decide +kernel)).trans ((lk_past (by decide +kernel)).trans ((lk_past (by decide +kernel)).trans lk_here))))
end
theorem un0 {H : Hp} {a b : Addr} {o : HO} (e : upd H a o b = none) : H b = none := by
  unfold upd at e
  split at e
  · cases e
  · exact e
/-- an outcome at a -/
def OutAt (K : PySem.W.Frag) (H : Hp) (a : Addr) (k : V) (kr kw : List (Key × V)) (xs ys : List V) (z : V) : Prop :=
  ∃ dx r w' f l, H a = some (.ins (aO K) dx (of_ k r w' f l z)) ∧ H r = some (.dK kr) ∧ H w' = some (.dK kw) ∧ H f = some (.lst xs) ∧ H l = some (.lst ys)
theorem OutAt.mono {K : PySem.W.Frag} {H H' : Hp} {a : Addr} {k : V} {kr kw : List (Key × V)} {xs ys : List V} {z : V} (s : Same H H') : OutAt K H a k kr kw xs ys z → OutAt K H' a k kr kw xs ys z
  | ⟨dx, r, w', f, l, h1, h2, h3, h4, h5⟩ => ⟨dx, r, w', f, l, s _ _ h1, s _ _ h2, s _ _ h3, s _ _ h4, s _ _ h5⟩
def spOI (K : PySem.W.Frag) : Sp := fun vs H Q _ => ∃ (a dx r w' f l : Addr) (k z : V) (kr kw : List (Key × V)) (xs ys : List V), vs = [.ref a, k, .ref r, .ref w', .ref f, .ref l, z] ∧ H a = some (.ins (aO K) dx []) ∧ H r = some (.dK kr) ∧ H w' = some (.dK kw) ∧ H f = some (.lst xs) ∧ H l = some (.lst ys) ∧
  ∀ H', (∀ b o, H b = some o → b ≠ a → H' b = some o) → OutAt K (nw (wo a H) H') a k kr kw xs ys z → Q .non H'
theorem scOI : FnScope ["self", "kind", "reads", "writes", "finals", "later", "reason"] ["self", "kind", "reads", "writes", "finals", "later", "reason"] (defScope sOInit) := ⟨rfl, rfl, rfl, by decide +kernel, rfl, by decide +kernel, by decide +kernel⟩
theorem ok_oinit (T : Txt K mg) {fd : FuncData} (F : FunD K "__init__" "Outcome.__init__" (defArgs sOInit) (defBody sOInit) (defScope sOInit) [] [("reason", .non)] (He.ma K (aO K) "__init__") fd) :
    FnA P w K mg base 1 (He.ma K (aO K) "__init__") fd ["self", "kind", "reads", "writes", "finals", "later", "reason"] (spOI K) := by
  refine FunD.okA F scOI (fun vs H Q h => ?_) (fun cdv A out s H vs Q hr h => ?_)
  · obtain ⟨a, dx, r, w', f, l, k, z, kr, kw, xs, ys, rfl, _⟩ := h
    rfl
  · obtain ⟨a, dx, r, w', f, l, k, z, kr, kw, xs, ys, rfl, ha, hr1, hw, hf, hl, q⟩ := h
    refine ⟨_, pss_cons (ps_fld (pv 0) (pv 1) rfl) (pss_cons (ps_fld (pv 0) (pe_callTy call_dictD rfl (T.free _ (by decide +kernel)) (by decide +kernel) (pa_cons (pv 2) pa_nil)) rfl)
      (pss_cons (ps_fld (pv 0) (pe_callTy call_dictD rfl (T.free _ (by decide +kernel)) (by decide +kernel) (pa_cons (pv 3) pa_nil)) rfl)
      (pss_cons (ps_fld (pv 0) (pe_callTy call_list_of rfl (T.free _ (by decide +kernel)) (by decide +kernel) (pa_cons (pv 4) pa_nil)) rfl)
      (pss_cons (ps_fld (pv 0) (pe_callTy call_list_of rfl (T.free _ (by decide +kernel)) (by decide +kernel) (pa_cons (pv 5) pa_nil)) rfl)
      (pss_one (ps_fld (pv 0) (pv 6) rfl)))))), ?_⟩
    have nr : r ≠ a := ne_of hr1 ha (by intro z; cases z)
    have nw : w' ≠ a := ne_of hw ha (by intro z; cases z)
    have nf : f ≠ a := ne_of hf ha (by intro z; cases z)
    have nl : l ≠ a := ne_of hl ha (by intro z; cases z)
    refine ⟨_, rfl, _, rfl, a, _, dx, _, rfl, ha, T.oC, T.oN _ (by decide +kernel), (by show 0 < 1000; decide), ?_⟩
    refine ⟨_, rfl, r, kr, rfl, .inl (by rw [upd_ne nr]; exact hr1), fun p1 n1 => ?_⟩
    have a1 : a ≠ p1 := ne_of_none upd_same n1
    refine ⟨_, rfl, a, _, dx, _, rfl, (by rw [upd_ne a1]; exact upd_same), T.oC, T.oN _ (by decide +kernel), (by show 1 < 1000; decide), ?_⟩
    have w1 : w' ≠ p1 := ne_of_none (by rw [upd_ne nw]; exact hw) n1
    refine ⟨_, rfl, w', kw, rfl, .inl (by rw [upd_ne nw, upd_ne w1, upd_ne nw]; exact hw), fun p2 n2 => ?_⟩
    have a2 : a ≠ p2 := ne_of_none upd_same n2
    have p12 : p1 ≠ p2 := ne_of_none (by rw [upd_ne (Ne.symm a1)]; exact upd_same) n2
    refine ⟨_, rfl, a, _, dx, _, rfl, (by rw [upd_ne a2]; exact upd_same), T.oC, T.oN _ (by decide +kernel), (by show 2 < 1000; decide), ?_⟩
    have f1 : f ≠ p1 := ne_of_none (by rw [upd_ne nf]; exact hf) n1
    have f2 : f ≠ p2 := ne_of_none (by rw [upd_ne nf, upd_ne f1, upd_ne nf]; exact hf) n2
    refine ⟨_, rfl, f, xs, rfl, .inl (SqL.of (by rw [upd_ne nf, upd_ne f2, upd_ne nf, upd_ne f1, upd_ne nf]; exact hf)), fun p3 n3 => ?_⟩
    have a3 : a ≠ p3 := ne_of_none upd_same n3
    have p13 : p1 ≠ p3 := ne_of_none (by rw [upd_ne (Ne.symm a1), upd_ne p12, upd_ne (Ne.symm a1)]; exact upd_same) n3
    have p23 : p2 ≠ p3 := ne_of_none (by rw [upd_ne (Ne.symm a2)]; exact upd_same) n3
    refine ⟨_, rfl, a, _, dx, _, rfl, (by rw [upd_ne a3]; exact upd_same), T.oC, T.oN _ (by decide +kernel), (by show 3 < 1000; decide), ?_⟩
    have l1 : l ≠ p1 := ne_of_none (by rw [upd_ne nl]; exact hl) n1
    have l2 : l ≠ p2 := ne_of_none (by rw [upd_ne nl, upd_ne l1, upd_ne nl]; exact hl) n2
    have l3 : l ≠ p3 := ne_of_none (by rw [upd_ne nl, upd_ne l2, upd_ne nl, upd_ne l1, upd_ne nl]; exact hl) n3
    refine ⟨_, rfl, l, ys, rfl, .inl (SqL.of (by rw [upd_ne nl, upd_ne l3, upd_ne nl, upd_ne l2, upd_ne nl, upd_ne l1, upd_ne nl]; exact hl)), fun p4 n4 => ?_⟩
    have a4 : a ≠ p4 := ne_of_none upd_same n4
    have p14 : p1 ≠ p4 := ne_of_none (by rw [upd_ne (Ne.symm a1), upd_ne p13, upd_ne (Ne.symm a1), upd_ne p12, upd_ne (Ne.symm a1)]; exact upd_same) n4
    have p24 : p2 ≠ p4 := ne_of_none (by rw [upd_ne (Ne.symm a2), upd_ne p23, upd_ne (Ne.symm a2)]; exact upd_same) n4
    have p34 : p3 ≠ p4 := ne_of_none (by rw [upd_ne (Ne.symm a3)]; exact upd_same) n4
    refine ⟨_, rfl, a, _, dx, _, rfl, (by rw [upd_ne a4]; exact upd_same), T.oC, T.oN _ (by decide +kernel), (by show 4 < 1000; decide), ?_⟩
    refine ⟨_, rfl, _, rfl, a, _, dx, _, rfl, upd_same, T.oC, T.oN _ (by decide +kernel), (by show 5 < 1000; decide), ?_⟩
    refine q _ (fun b o e nb => ?_) ⟨dx, p1, p2, p3, p4, ?_, ?_, ?_, ?_, ?_⟩
    · have b1 : b ≠ p1 := ne_of_none (by rw [upd_ne nb]; exact e) n1
      have b2 : b ≠ p2 := ne_of_none (by rw [upd_ne nb, upd_ne b1, upd_ne nb]; exact e) n2
      have b3 : b ≠ p3 := ne_of_none (by rw [upd_ne nb, upd_ne b2, upd_ne nb, upd_ne b1, upd_ne nb]; exact e) n3
      have b4 : b ≠ p4 := ne_of_none (by rw [upd_ne nb, upd_ne b3, upd_ne nb, upd_ne b2, upd_ne nb, upd_ne b1, upd_ne nb]; exact e) n4
      rw [upd_ne nb, upd_ne nb, upd_ne b4, upd_ne nb, upd_ne b3, upd_ne nb, upd_ne b2, upd_ne nb, upd_ne b1, upd_ne nb]
      exact e
    · refine nw_of ?_ wo_self
      rw [upd_same]
      refine congrArg (fun q => some (HO.ins (aO K) dx q)) ?_
      have e1 : putF ("kind" : Str) k [] = ([(("kind" : Str), k)] : List (Str × V)) := rfl
      have e2 : putF ("reads" : Str) (.ref p1) ([(("kind" : Str), k)] : List (Str × V)) = [(("kind" : Str), k), (("reads" : Str), .ref p1)] := putF_new ["kind"] rfl (by decide +kernel)
      have e3 : putF ("writes" : Str) (.ref p2) ([(("kind" : Str), k), (("reads" : Str), .ref p1)] : List (Str × V)) = [(("kind" : Str), k), (("reads" : Str), .ref p1), (("writes" : Str), .ref p2)] := putF_new ["kind", "reads"] rfl (by decide +kernel)
      have e4 : putF ("finals" : Str) (.ref p3) ([(("kind" : Str), k), (("reads" : Str), .ref p1), (("writes" : Str), .ref p2)] : List (Str × V)) = [(("kind" : Str), k), (("reads" : Str), .ref p1), (("writes" : Str), .ref p2), (("finals" : Str), .ref p3)] := putF_new ["kind", "reads", "writes"] rfl (by decide +kernel)
      have e5 : putF ("later" : Str) (.ref p4) ([(("kind" : Str), k), (("reads" : Str), .ref p1), (("writes" : Str), .ref p2), (("finals" : Str), .ref p3)] : List (Str × V)) = [(("kind" : Str), k), (("reads" : Str), .ref p1), (("writes" : Str), .ref p2), (("finals" : Str), .ref p3), (("later" : Str), .ref p4)] := putF_new ["kind", "reads", "writes", "finals"] rfl (by decide +kernel)
      have e6 : putF ("reason" : Str) z ([(("kind" : Str), k), (("reads" : Str), .ref p1), (("writes" : Str), .ref p2), (("finals" : Str), .ref p3), (("later" : Str), .ref p4)] : List (Str × V)) = of_ k p1 p2 p3 p4 z := putF_new ["kind", "reads", "writes", "finals", "later"] rfl (by decide +kernel)
      rw [e1, e2, e3, e4, e5, e6]
    · refine nw_of ?_ (wo_none (un0 n1))
      rw [upd_ne (Ne.symm a1), upd_ne (Ne.symm a1), upd_ne p14, upd_ne (Ne.symm a1), upd_ne p13, upd_ne (Ne.symm a1), upd_ne p12, upd_ne (Ne.symm a1)]
      exact upd_same
    · refine nw_of ?_ (wo_none (un0 (un0 (un0 n2))))
      rw [upd_ne (Ne.symm a2), upd_ne (Ne.symm a2), upd_ne p24, upd_ne (Ne.symm a2), upd_ne p23, upd_ne (Ne.symm a2)]
      exact upd_same
    · refine nw_of ?_ (wo_none (un0 (un0 (un0 (un0 (un0 n3))))))
      rw [upd_ne (Ne.symm a3), upd_ne (Ne.symm a3), upd_ne p34, upd_ne (Ne.symm a3)]
      exact upd_same
    · refine nw_of ?_ (wo_none (un0 (un0 (un0 (un0 (un0 (un0 (un0 n4))))))))
      rw [upd_ne (Ne.symm a4), upd_ne (Ne.symm a4)]
      exact upd_same
/-- Outcome(k, reads=.., writes=.., finals=.., later=.., reason=..) binds -/
theorem oi_kb5 {fd : FuncData} (F : FunD K "__init__" "Outcome.__init__" (defArgs sOInit) (defBody sOInit) (defScope sOInit) [] [("reason", .non)] (He.ma K (aO K) "__init__") fd) :
    KBn K fd ["self", "kind", "reads", "writes", "finals", "later", "reason"] (1 + 1) ["reads", "writes", "finals", "later", "reason"] (fun us ws => us ++ ws) (fun vs zs => vs ++ zs) := by
  obtain ⟨mv, h⟩ := F.kbinds0 (ps := ["self", "kind", "reads", "writes", "finals", "later", "reason"]) (1 + 1) ["reads", "writes", "finals", "later", "reason"] [] (fun us _ ws => us ++ ws) (List.cons_ne_nil _ _) (fun _ hq => absurd hq List.not_mem_nil) (fun r _ r2 => r.append r2)
    fun D doc pm an cdv ct us mv ws h1 h2 h3 => match us, mv, ws, h1, h2, h3 with | [_, _], [], [_, _, _, _, _], _, _, _ => rfl
  exact h
theorem oi_kb4 {fd : FuncData} (F : FunD K "__init__" "Outcome.__init__" (defArgs sOInit) (defBody sOInit) (defScope sOInit) [] [("reason", .non)] (He.ma K (aO K) "__init__") fd) :
    ∃ mv : List Value, KBn K fd ["self", "kind", "reads", "writes", "finals", "later", "reason"] (1 + 1) ["reads", "writes", "finals", "later"] (fun us ws => us ++ (ws ++ mv)) (fun vs zs => vs ++ (zs ++ [.non])) :=
  F.kbinds0 (ps := ["self", "kind", "reads", "writes", "finals", "later", "reason"]) (1 + 1) ["reads", "writes", "finals", "later"] [("reason", .non)] (fun us mv ws => us ++ (ws ++ mv)) (List.cons_ne_nil _ _) (fun _ hq => hq) (fun r r1 r2 => r.append (r2.append r1))
    fun D doc pm an cdv ct us mv ws h1 h2 h3 => match us, mv, ws, h1, h2, h3 with | [_, _], [_], [_, _, _, _], _, _, _ => ⟨_, _, _, _, _, _, rfl, rfl, rfl⟩
/-! ### ended -/
def spEnded (K : PySem.W.Frag) : Sp := fun vs H Q _ => ∃ (k z : V) (r b : Addr) (kr : List (Key × V)) (xs : List V), vs = [k, .ref r, .ref b, z] ∧ H r = some (.dK kr) ∧ H b = some (.lst xs) ∧
  ∀ (a : Addr) (H' : Hp), Same H H' → H a = none → OutAt K (nw H H') a k kr [] xs [] z → Q (.ref a) H'
theorem scEnded : FnScope ["kind", "reads", "before", "reason"] ["kind", "reads", "before", "reason"] (defScope sEnded) := ⟨rfl, rfl, rfl, by decide +kernel, rfl, by decide +kernel, by decide +kernel⟩
/-- a new Outcome leaves what stood -/
theorem same_made {H H1 : Hp} {x dx C : Addr} (nx : H x = none) (nd : H dx = none) (k : ∀ b o, (upd (upd H dx (.own x)) x (.ins C dx [])) b = some o → b ≠ x → H1 b = some o) : Same H H1 := L2.Same.made nx nd k
theorem ok_ended (T : Txt K mg) {fd : FuncData} (F : FunD K "ended" "ended" (defArgs sEnded) (defBody sEnded) (defScope sEnded) [.non] [] (He.ga K "ended") fd) :
    FnA P w K mg base 3 (He.ga K "ended") fd ["kind", "reads", "before", "reason"] (spEnded K) := by
  refine FunD.okA F scEnded (fun vs H Q h => ?_) (fun cdv A out s H vs Q hr h => ?_)
  · obtain ⟨k, z, r, b, kr, xs, rfl, _⟩ := h
    rfl
  · obtain ⟨k, z, r, b, kr, xs, rfl, hr1, hb, q⟩ := h
    obtain ⟨fdO, FO⟩ := T.m_Outcome
    refine ⟨_, pss_one (ps_ret (pe_makeKA (n := 1) T.oMk (ok_oinit T FO) hr rfl (T.glo _ (by decide +kernel)) (oi_kb5 FO) (pa_cons (pv 0) pa_nil)
      (pk_cons (pv 1) (pk_cons pe_dnewK (pk_cons (pv 2) (pk_cons (pe_lst pa_nil) (pk_cons (pv 3) pk_nil))))))), ?_⟩
    refine ⟨_, rfl, _, rfl, fun p1 n1 => ⟨_, rfl, by show 0 ≤ sizeLine; decide, fun p2 n2 => ⟨_, rfl, rfl, rfl, fun x dx nx nd ne => ?_⟩⟩⟩
    have s1 := sm_upd n1 (.dK [])
    have s2 := s1.trans (sm_upd n2 (.lst []))
    have s3 : Same H (upd (upd (upd (upd H p1 (.dK [])) p2 (.lst [])) dx (.own x)) x (.ins (aO K) dx [])) := fun c o e => by
      have e' := s2 _ _ e
      rw [upd_ne (ne_of_none e' nx), upd_ne (ne_of_none e' nd)]
      exact e'
    have keep : ∀ {c : Addr} {o : HO}, (upd (upd H p1 (.dK [])) p2 (.lst [])) c = some o → (upd (upd (upd (upd H p1 (.dK [])) p2 (.lst [])) dx (.own x)) x (.ins (aO K) dx [])) c = some o := fun {c o} e => by
      rw [upd_ne (ne_of_none e nx), upd_ne (ne_of_none e nd)]
      exact e
    refine ⟨x, dx, r, p1, b, p2, k, z, kr, [], xs, [], rfl, upd_same, s3 _ _ hr1, keep ((sm_upd n2 _) _ _ upd_same), s3 _ _ hb, keep upd_same, fun H' kp O => ⟨rfl, ?_⟩⟩
    refine q x H' (fun c o e => kp c o (s3 c o e) ?_) (s2.free nx) (O.mono (nw_base fun b hb => ?_))
    rotate_left
    · by_cases e : b = x
      · rw [e]; exact s2.free nx
      · rw [wo_ne e] at hb
        exact s3.free hb
    exact ne_of_none (s2 _ _ e) nx
end
end K13
set_option Elab.async false
set_option linter.all false
set_option maxRecDepth 100000
set_option maxHeartbeats 4000000
/-! K13Sup: BlockRunner.__init__, whose first statement calls super().__init__. -/
namespace K13
open PySem PySem.Spec PyProof.Rows L2
open PySem.W (Frag)
abbrev PP : Program := PySem.Challenge.pw_handshaker_k13_whole_blocks
abbrev aR (K : Frag) : Addr := He.ma K (He.ga K "Reader") "__init__"
section
variable {w : World} {K : Frag} {mg : Str → Option Value} {base : Heap}
/-! ### Reader.__init__ -/
def spRI (K : Frag) : Sp := fun vs H Q _ => ∃ (a dx : Addr) (v : V), vs = [.ref a, v] ∧ H a = some (.ins (aB K) dx []) ∧ Q .non (upd H a (.ins (aB K) dx [("locals_now", v)]))
theorem scRI : FnScope ["self", "locals_now"] ["self", "locals_now"] (defScope sRInit) := ⟨rfl, rfl, rfl, by decide +kernel, rfl, by decide +kernel, by decide +kernel⟩
theorem ok_rinit {P : Program} (T : Txt K mg) : Pr P w K mg base CX0 1 (aR K) ["self", "locals_now"] (spRI K) := by
  refine T.m_Reader.pr scRI (fun _ _ _ _ _ _ us hl => match us, hl with | [_, _], _ => rfl) (fun vs H Q E h => ?_) (fun cdv A outer s H vs Q E hr h => ?_)
  · obtain ⟨a, dx, v, rfl, _⟩ := h
    rfl
  · obtain ⟨a, dx, v, rfl, ha, q⟩ := h
    refine ⟨_, pss_one (ps_fld (pv 0) (pv 1) rfl), ?_⟩
    exact ⟨_, rfl, _, rfl, a, _, dx, _, rfl, ha, T.bC, T.bN _ (by decide +kernel), (by show 0 < 1000; decide), q⟩
/-! ### the text of BlockRunner.__init__ -/
abbrev nfB (cc cda : Addr) : NdefX.NF := ⟨"__init__", "BlockRunner.__init__", defArgs sBInit, defBody sBInit, defScope sBInit, [("__class__", cc)], cda⟩
theorem scBI : NdefX.NScope (["self", "cells", "locals_now", "memory", "__class__"] : List Str) (["self", "cells", "locals_now", "memory"] : List Str) (["__class__"] : List Str) (defScope sBInit) := NdefX.nscope_by (by decide +kernel)
def spBI (K : Frag) : Sp := fun vs H Q _ => ∃ (a dx ac d0 am : Addr) (kl : List (Key × V)), vs = [.ref a, .ref ac, .ref d0, .ref am] ∧ H a = some (.ins (aB K) dx []) ∧ H d0 = some (.dK kl) ∧
  ∀ (H' : Hp) (dl dr dw al : Addr), (∀ b o, H b = some o → b ≠ a → H' b = some o) → H dl = none → H dr = none → H dw = none → H al = none → dl ≠ dr → dl ≠ dw → dr ≠ dw →
    H' a = some (.ins (aB K) dx (bf dl ac am dr dw al)) → H' dl = some (.dK kl) → H' dr = some (.dK []) → H' dw = some (.dK []) → H' al = some (.lst []) → Q .non H'
/-- the statements behind the first one -/
theorem ok_binit_rest {X : Cx} (hN : X.N = (["self", "cells", "locals_now", "memory", "__class__"] : List Str)) (hK : X.K = K) (T : Txt K mg)
    {a dx ac d0 am dl : Addr} {kl : List (Key × V)} {H : Hp} {D : Ends} (h0 : H a = some (.ins (aB K) dx [("locals_now", .ref dl)])) (hd : H dl = some (.dK kl))
    (k : ∀ (H' : Hp) (dr dw al : Addr), (∀ b o, H b = some o → b ≠ a → H' b = some o) → H dr = none → H dw = none → H al = none → dl ≠ dr → dl ≠ dw → dr ≠ dw →
      H' a = some (.ins (aB K) dx (bf dl ac am dr dw al)) → H' dl = some (.dK kl) → H' dr = some (.dK []) → H' dw = some (.dK []) → H' al = some (.lst []) → D.nx [some (.ref a), some (.ref ac), some (.ref d0), some (.ref am), none] H') :
    tSeq (sFld K (tVar 0) (tVar 1) "cells") (tSeq (sFld K (tVar 0) (tVar 3) "memory") (tSeq (sFld K (tVar 0) tDNewK "reads") (tSeq (sFld K (tVar 0) tDNewK "writes") (sFld K (tVar 0) (tLst tNil) "later")))) D
      [some (.ref a), some (.ref ac), some (.ref d0), some (.ref am), none] H := by
  have c0 : ∀ {n : Nat}, n ≤ 6 → n < 1000 := fun h => by omega
  have e1 : putF ("cells" : Str) (.ref ac) ([(("locals_now" : Str), V.ref dl)] : List (Str × V)) = [(("locals_now" : Str), V.ref dl), (("cells" : Str), V.ref ac)] := (put_past (by decide +kernel)).trans rfl
  have e2 : putF ("memory" : Str) (.ref am) ([(("locals_now" : Str), V.ref dl), (("cells" : Str), V.ref ac)] : List (Str × V)) = [(("locals_now" : Str), V.ref dl), (("cells" : Str), V.ref ac), (("memory" : Str), V.ref am)] := (put_past (by decide +kernel)).trans (congrArg _ ((put_past (by decide +kernel)).trans rfl))
  have ne : dl ≠ a := ne_of hd h0 (by intro z; cases z)
  refine ⟨_, rfl, _, rfl, a, _, dx, _, rfl, h0, T.bC, T.bN _ (by decide +kernel), c0 (by show 1 ≤ 6; decide), ?_⟩
  rw [e1]
  refine ⟨_, rfl, _, rfl, a, _, dx, _, rfl, upd_same, T.bC, T.bN _ (by decide +kernel), c0 (by show 2 ≤ 6; decide), ?_⟩
  rw [e2, upd_upd]
  intro dr ndr
  have a1 : a ≠ dr := ne_of_none upd_same ndr
  have e3 : putF ("reads" : Str) (.ref dr) ([(("locals_now" : Str), V.ref dl), (("cells" : Str), V.ref ac), (("memory" : Str), V.ref am)] : List (Str × V)) = [(("locals_now" : Str), V.ref dl), (("cells" : Str), V.ref ac), (("memory" : Str), V.ref am), (("reads" : Str), V.ref dr)] :=
    (put_past (by decide +kernel)).trans (congrArg _ ((put_past (by decide +kernel)).trans (congrArg _ ((put_past (by decide +kernel)).trans rfl))))
  refine ⟨_, rfl, a, _, dx, _, rfl, (by rw [upd_ne a1]; exact upd_same), T.bC, T.bN _ (by decide +kernel), c0 (by show 3 ≤ 6; decide), ?_⟩
  rw [e3]
  intro dw ndw
  have a2 : a ≠ dw := ne_of_none upd_same ndw
  have d12 : dr ≠ dw := ne_of_none (by rw [upd_ne (Ne.symm a1)]; exact upd_same) ndw
  have e4 : putF ("writes" : Str) (.ref dw) ([(("locals_now" : Str), V.ref dl), (("cells" : Str), V.ref ac), (("memory" : Str), V.ref am), (("reads" : Str), V.ref dr)] : List (Str × V)) = [(("locals_now" : Str), V.ref dl), (("cells" : Str), V.ref ac), (("memory" : Str), V.ref am), (("reads" : Str), V.ref dr), (("writes" : Str), V.ref dw)] :=
    (put_past (by decide +kernel)).trans (congrArg _ ((put_past (by decide +kernel)).trans (congrArg _ ((put_past (by decide +kernel)).trans (congrArg _ ((put_past (by decide +kernel)).trans rfl))))))
  refine ⟨_, rfl, a, _, dx, _, rfl, (by rw [upd_ne a2]; exact upd_same), T.bC, T.bN _ (by decide +kernel), c0 (by show 4 ≤ 6; decide), ?_⟩
  rw [e4]
  refine ⟨(by show 0 ≤ sizeLine; decide), fun al nal => ?_⟩
  have a3 : a ≠ al := ne_of_none upd_same nal
  have d13 : dr ≠ al := ne_of_none (by rw [upd_ne (Ne.symm a1), upd_ne d12, upd_ne (Ne.symm a1)]; exact upd_same) nal
  have d23 : dw ≠ al := ne_of_none (by rw [upd_ne (Ne.symm a2)]; exact upd_same) nal
  have e5 : putF ("later" : Str) (.ref al) ([(("locals_now" : Str), V.ref dl), (("cells" : Str), V.ref ac), (("memory" : Str), V.ref am), (("reads" : Str), V.ref dr), (("writes" : Str), V.ref dw)] : List (Str × V)) = bf dl ac am dr dw al :=
    (put_past (by decide +kernel)).trans (congrArg _ ((put_past (by decide +kernel)).trans (congrArg _ ((put_past (by decide +kernel)).trans (congrArg _ ((put_past (by decide +kernel)).trans (congrArg _ ((put_past (by decide +kernel)).trans rfl))))))))
  refine ⟨_, rfl, a, _, dx, _, rfl, (by rw [upd_ne a3]; exact upd_same), T.bC, T.bN _ (by decide +kernel), c0 (by show 5 ≤ 6; decide), ?_⟩
  rw [e5]
  have dlr : dl ≠ dr := ne_of_none (by rw [upd_ne ne]; exact hd) ndr
  have dlw : dl ≠ dw := ne_of_none (by rw [upd_ne ne, upd_ne dlr, upd_ne ne]; exact hd) ndw
  have dll : dl ≠ al := ne_of_none (by rw [upd_ne ne, upd_ne dlw, upd_ne ne, upd_ne dlr, upd_ne ne]; exact hd) nal
  rw [upd_ne (Ne.symm a1)] at ndr
  rw [upd_ne (Ne.symm a2), upd_ne (Ne.symm d12), upd_ne (Ne.symm a2)] at ndw
  rw [upd_ne (Ne.symm a3), upd_ne (Ne.symm d23), upd_ne (Ne.symm a3), upd_ne (Ne.symm d13), upd_ne (Ne.symm a3)] at nal
  refine k _ dr dw al (fun b o e nb => ?_) ndr ndw nal dlr dlw d12 upd_same ?_ ?_ ?_ ?_
  · have b1 := ne_of_none e ndr
    have b2 := ne_of_none e ndw
    have b3 := ne_of_none e nal
    rw [upd_ne nb, upd_ne b3, upd_ne nb, upd_ne b2, upd_ne nb, upd_ne b1, upd_ne nb]
    exact e
  · rw [upd_ne ne, upd_ne dll, upd_ne ne, upd_ne dlw, upd_ne ne, upd_ne dlr, upd_ne ne]
    exact hd
  · rw [upd_ne (Ne.symm a1), upd_ne d13, upd_ne (Ne.symm a1), upd_ne d12, upd_ne (Ne.symm a1)]
    exact upd_same
  · rw [upd_ne (Ne.symm a2), upd_ne d23, upd_ne (Ne.symm a2)]
    exact upd_same
  · rw [upd_ne (Ne.symm a3)]
    exact upd_same
abbrev aBI (K : Frag) : Addr := He.ma K (aB K) "__init__"
theorem binit_cells {H : Hp} {h : Heap} {cc cda : Addr} {v : Option Value} (f : H cc = none) (c : h.IsCell cc v) : NdefX.CellsAt (nfB cc cda).cl (["__class__"] : List Str) [none] h H := by
  have one : ∀ y c, ([(("__class__" : Str), cc)] : List (Str × Addr)).lookup y = some c → y = ("__class__" : Str) ∧ c = cc := fun y c e => by
    have m := PySem.mem_of_lookup e
    rw [List.mem_singleton] at m
    cases m
    exact ⟨rfl, rfl⟩
  refine ⟨rfl, fun y d e => ?_, fun x y d e1 e2 => (one _ _ e1).1.trans (one _ _ e2).1.symm, fun i y e => ⟨cc, ?_, fun v e2 => ?_⟩⟩
  · obtain ⟨_, rfl⟩ := one _ _ e
    exact ⟨f, v, c⟩
  · have m := List.mem_of_getElem? e
    rw [List.mem_singleton] at m
    subst m
    show List.lookup ("__class__" : Str) [(("__class__" : Str), cc)] = some cc
    simp [List.lookup]
  · cases i with
    | zero => simp at e2
    | succ i => simp at e2
theorem ok_binit (T : Txt K mg) (S : SupTxt K) : ∃ fd, FnOk PP w K mg base CX0 2 (aBI K) fd ["self", "cells", "locals_now", "memory"] (spBI K) ∧ Binds K fd ["self", "cells", "locals_now", "memory"] [] := by
  obtain ⟨oc, od, kV, doc, pm, an, cda, ct, osl, cc, cl, ccl, cld, cdd, csl, ccs, cvs, file, tf, lk, hcd, lkc, lkd, hv, hfl⟩ := S.fn
  obtain ⟨cdD, hD⟩ := S.hD
  obtain ⟨fdR, R1, R2⟩ := (ok_rinit (P := PP) (w := w) (base := base) T).ok
  refine ⟨PySem.W.fnX "__init__" "BlockRunner.__init__" (defArgs sBInit) (defBody sBInit) (defScope sBInit) [("__class__", cc)] .none kV doc pm an (.ref cda) ct, ⟨fun vs H Q E h => ?_, fun A out s H ar us vs Q E hr e0 hb r hsp => ?_⟩, Binds.all fun us hl => match us, hl with | [_, _, _, _], _ => rfl⟩
  · obtain ⟨a, dx, ac, d0, am, kl, rfl, _⟩ := h
    rfl
  obtain ⟨a, dx, ac, d0, am, kl, rfl, ha, hd, q⟩ := hsp
  have KB : K.In base := e0.mod.kin
  have up : ∀ b o, base.get? b = some o → s.heap.get? b = some o := fun b o e => (e0.bs b o e).1
  have KX : K.In s.heap := KB.keeps up
  cases r with | cons r0 r1 => ?_
  cases r0
  rename_i us
  have l1 : us.length = 3 := r1.length.symm
  refine ks_codeAny_call_defAt (body := defBody sBInit) hr.depth (KX _ _ lk) rfl (e0.mod.nolimit.keeps up) (PySem.W.codeRec_of KX hcd) rfl hb scBI.nocell (fun y hy => scBI.par y.1 (List.of_mem_zip hy).1) (fun h₁ hns kp => ?_)
  have nc : H cc = none := (e0.bs _ _ (KB _ _ lkc)).2
  have C := binit_cells (cda := cda) nc (⟨_, KX _ _ lkc, rfl⟩ : s.heap.IsCell cc _)
  have I := NdefX.inv_startN (CX := CX0) (E := E) (F := nfB cc cda) (f := aBI K) (tk := s.toks + ((["self", "cells", "locals_now", "memory"] : List Str).zip (Value.ref a :: us)).length) scBI hr.hd e0 rfl (show Vals (V.ref a :: [.ref ac, .ref d0, .ref am]) (Value.ref a :: us) from .cons rfl r1) C hns kp
  have KX1 : K.In h₁ := KX.keeps kp
  have I0 := I
  have up1 : ∀ b o, base.get? b = some o → h₁.get? b = some o := fun b o e => kp _ _ (up b o e)
  obtain ⟨oD, hD1, hD2⟩ : ∃ oD, h₁.get? (aB K) = some oD ∧ oD.data = .cls cdD := by
    unfold PySem.W.clsIn at hD
    split at hD
    · rename_i c d cd' sl ho
      cases hD
      exact ⟨_, KX1 _ _ ho, rfl⟩
    · cases hD
  obtain ⟨mA, O, _⟩ := ins_get I.hok ha
  show _root_.PySem.wpAt (model PP w) (A.deeper (NdefX.envF (nfB cc cda) (aBI K) s.heap.objs.size)) (.func (defBody sBInit) (NdefX.envF (nfB cc cda) (aBI K) s.heap.objs.size)) (execs (defBody sBInit) (NdefX.envF (nfB cc cda) (aBI K) s.heap.objs.size)) _ _ _
  refine ks_wpAt_execs_cons (ks_wpAt_Expr_any (ks_wpAt_MethodCall ?_))
  refine ks_wpAt_super_base (env := NdefX.envF (nfB cc cda) (aBI K) s.heap.objs.size) rfl rfl rfl rfl (KX1 _ _ lk) rfl rfl rfl (KX1 _ _ lkd) rfl hv hfl (by decide +kernel) ?_
  refine PySem.W.ks_loadName_global rfl rfl ?_
  obtain ⟨mb, b1, b2⟩ := e0.mod.blt
  refine Calls.loadGlobal_builtin (e0.mod.glob.keeps up1) (T.free _ (by decide +kernel)) (b1.keeps up1) ((b2 "super" (by decide)).trans (by decide +kernel)) ⟨rfl, ?_⟩
  refine wpAny_loadName_free rfl rfl rfl ⟨_, KX1 _ _ lkc, rfl⟩ ?_
  refine wpAny_loadName_local rfl rfl hns (v := .ref a) ?_ ?_
  · exact NdefX.zip_look (ps := ["self", "cells", "locals_now", "memory"]) (i := 0) (by decide +kernel) rfl rfl
  refine ks_wpAny_isType_cls hD1 hD2 ⟨rfl, ?_⟩
  have nC : a ≠ aB K := fun z => by
    have o := O.obj
    rw [z, hD1] at o
    cases o
    cases hD2
  refine ks_wpAny_call_super hD1 hD2 O.obj rfl (fun c e => ?_) (PySem.W.looks_mroIn KX1 S.hsub) (fun h2 hs kp2 => ?_)
  · cases e
  have KX2 : K.In h2 := KX1.keeps kp2
  have I2 : Inv (NdefX.ncx CX0 PP w K mg base ["self", "cells", "locals_now", "memory", "__class__"] (nfB cc cda) (aBI K) A out s H E) [] (NdefX.startF ["self", "cells", "locals_now", "memory", "__class__"] [.ref a, .ref ac, .ref d0, .ref am] [none]) H { s with heap := h2, toks := s.toks + ((["self", "cells", "locals_now", "memory"] : List Str).zip (Value.ref a :: us)).length } := I.kept kp2
  obtain ⟨oR, hR, hRc⟩ : ∃ oR, K.lookup (aR K) = some oR ∧ oR.cls = .type "function" := by
    have ht' : (K.lookup (aR K)).map (·.cls) = some (.type "function") := S.tR
    cases z : K.lookup (aR K) with
    | none => rw [z] at ht'; cases ht'
    | some of => rw [z] at ht'; exact ⟨of, rfl, Option.some.inj ht'⟩
  have hal : PySem.W.alongIn K ("__init__" : Str) ((cdD.mro.dropWhile (· != .ref (aB K))).drop 1) = some (some (.ref (aR K))) := by
    have z := S.hsup
    unfold PySem.W.ks_superIn at z
    rw [hD] at z
    exact z
  refine ks_wpAny_getMethod_super hs (PySem.W.looks_opaque KX2 S.ho) (l₀ := cdD.mro) (fun A Q E s k q => wpAny_bind ((PySem.W.looks_clsIn KX2 hD) A _ E s k (wpAny_pure q))) rfl KX2 hal (KX2 _ _ hR) hRc nC (by decide) ?_
  have I3 := I2.kept (t' := s.toks + ((["self", "cells", "locals_now", "memory"] : List Str).zip (Value.ref a :: us)).length + 1) (h' := h2.push (PySem.W.methodObj (.ref (aR K)) (.ref a))) (fun b o e => Heap.get?_push_of_some _ e)
  have hq : (h2.push (PySem.W.methodObj (.ref (aR K)) (.ref a))).get? h2.objs.size = some (PySem.W.methodObj (.ref (aR K)) (.ref a)) := Heap.get?_push_at rfl rfl
  have nq : H h2.objs.size = none := I2.hok.fresh (Nat.le_refl _)
  have I4 := I3.pins_of (pins' := [(h2.objs.size, PySem.W.methodObj (.ref (aR K)) (.ref a))]) fun p hp => by
    rw [List.mem_singleton] at hp
    subst hp
    exact ⟨hq, nq, Nat.ne_of_gt I2.lt, I2.nofs (Nat.le_refl _), fun v z => by cases z⟩
  have nw : News base (h2.objs.size + 1) (h2.push (PySem.W.methodObj (.ref (aR K)) (.ref a))) [(h2.objs.size, PySem.W.methodObj (.ref (aR K)) (.ref a))] := fun p hp => by
    rw [List.mem_singleton] at hp
    subst hp
    refine ⟨hq, Nat.ne_of_lt (Nat.lt_succ_self _), ?_⟩
    cases z : base.get? h2.objs.size with
    | none => rfl
    | some o => exact absurd (Heap.lt_size (I2.bk _ _ z)) (Nat.lt_irrefl _)
  have fnR : PySem.W.fnIn K (aR K) = true := by
    obtain ⟨fd, F⟩ := T.m_Reader
    obtain ⟨oc, od, dV, kV, doc, pm, an, cdv, ct, osl, rfl, lk, _⟩ := F.ex
    unfold PySem.W.fnIn
    rw [lk]
  refine PySem.W.callWith_M KB nw (List.mem_singleton.mpr rfl) fnR (thn ((pa_cons (X := NdefX.ncx CX0 PP w K mg base ["self", "cells", "locals_now", "memory", "__class__"] (nfB cc cda) (aBI K) A out s H E) (pe_callTy (x := "dict") call_dictD rfl (T.free _ (by decide +kernel)) (by decide +kernel) (pa_cons (pv (x := "locals_now") 2) pa_nil)) pa_nil).run _ _ _ _ H (fun vs H' => ∃ dl, vs = [.ref dl] ∧ H dl = none ∧ H' = upd H dl (.dK kl)) I4 ⟨_, rfl, d0, kl, rfl, .inl hd, fun dl nl => ⟨dl, rfl, nl, rfl⟩⟩) fun us5 s5 hh => ?_)
  obtain ⟨vs5, H5, I5, r5, dl, rfl, nl, rfl⟩ := hh
  have na : a ≠ dl := ne_of_none ha nl
  have nd : d0 ≠ dl := ne_of_none hd nl
  refine ⟨⟨(I5.pin _ (List.mem_append_right _ (List.mem_singleton.mpr rfl))).1, I5.kIn⟩, ?_⟩
  have room : Room 1 (A.deeper (NdefX.envF (nfB cc cda) (aBI K) s.heap.objs.size)) := hr.deeper _
  have r6 : Vals (V.ref a :: [.ref dl]) (Value.ref a :: us5) := .cons rfl r5
  refine wpAny_call (PySem.W.method_call (I5.pin _ (List.mem_append_right _ (List.mem_singleton.mpr rfl))).1 ?_)
  refine codeAny_mono (R1.run _ _ s5 _ ⟨Value.ref a :: us5, []⟩ (Value.ref a :: us5) _ (fun v H' => v = .non ∧ H' = upd (upd H dl (.dK kl)) a (.ins (aB K) dx [("locals_now", .ref dl)])) E0 room I5.env0 ?_ r6 ⟨a, dx, .ref dl, rfl, by rw [upd_ne na]; exact ha, rfl, rfl⟩) fun r s6 hr6 => ?_
  · have z := R2 s5 (Value.ref a :: us5) I5.kIn (by rw [List.append_nil, ← r6.length]; rfl)
    rw [List.append_nil] at z
    exact z
  cases r with
  | error e => exact (show False from hr6).elim
  | ok fl =>
  cases fl with
  | next => exact (show False from hr6).elim
  | brk => exact (show False from hr6).elim
  | cont => exact (show False from hr6).elim
  | ret u =>
  obtain ⟨v6, H6, I6, r7, rfl, rfl⟩ := I5.after hr6
  have I7 := I6.pins_of (pins' := []) fun p hp => absurd hp (by simp)
  refine wpAt_of_wpAny ?_
  refine wpAny_mono (PSs.run (pss_cons (X := NdefX.ncx CX0 PP w K mg base ["self", "cells", "locals_now", "memory", "__class__"] (nfB cc cda) (aBI K) A out s H E) (ps_fld (pv 0) (pv 1) rfl) (pss_cons (ps_fld (pv 0) (pv 3) rfl) (pss_cons (ps_fld (pv 0) pe_dnewK rfl) (pss_cons (ps_fld (pv 0) pe_dnewK rfl) (pss_one (ps_fld (pv 0) (pe_lst pa_nil) rfl)))))) [] _ _ _ { nx := fun _ H' => Q .non H', rt := Q } I7 (ok_binit_rest rfl rfl T upd_same (by rw [upd_ne (Ne.symm na)]; exact upd_same) fun H' dr dw al kp3 n1 n2 n3 d1 d2 d3 g1 g2 g3 g4 g5 => ?_)) (fun fl s' hs => ?_) fun e s' hs => hs
  · exact q H' dl dr dw al (fun b o e nb => kp3 b o (by rw [upd_ne nb, upd_ne (ne_of_none e nl)]; exact e) nb) nl (NdefX.upd_none (NdefX.upd_none n1)) (NdefX.upd_none (NdefX.upd_none n2)) (NdefX.upd_none (NdefX.upd_none n3)) d1 d2 d3 g1 g2 g3 g4 g5
  · cases fl with
    | ret u =>
      obtain ⟨v, σ', H', J, rv, q⟩ := hs
      exact ⟨v, H', J.os, J.bare, J.base, J.hok, rv, q⟩
    | next =>
      obtain ⟨σ', H', J, q⟩ := hs
      exact ⟨.non, H', J.os, J.bare, J.base, J.hok, rfl, q⟩
    | brk => exact hs.elim fun _ z => z.elim fun _ z => z.2.elim
    | cont => exact hs.elim fun _ z => z.elim fun _ z => z.2.elim
end
end K13
set_option Elab.async false
set_option linter.all false
set_option maxRecDepth 100000
set_option maxHeartbeats 4000000
/-! K13P5: run_block. -/
namespace K13
open PySem PySem.Spec PyProof.Rows L2
open L2H (RoomH roomH_of)
/-! ### what a block comes to -/
structure Rec where
  k : Str
  rd : List (Int × Int)
  wr : List (Int × Int)
  fi : List Int
  la : List Int
  re : V
def recOf (x y : Int) : Oc × Stt → Rec
  | (.done, st) => ⟨"done", st.reads, st.writes, [st.x, st.y], st.later, .non⟩
  | (.retry, st) => ⟨"retry", st.reads, [], [x, y], [], .non⟩
  | (.undo, st) => ⟨"undo", st.reads, [], [x, y], [], .non⟩
  | (.fault r, st) => ⟨"fault", st.reads, [], [x, y], [], .str (wdS r)⟩
def OutR (K : PySem.W.Frag) (H : Hp) (a : Addr) (r : Rec) : Prop := OutAt K H a (.str r.k) (kvI r.rd) (kvI r.wr) (r.fi.map V.int) (r.la.map V.int) r.re
theorem OutR.mono {K : PySem.W.Frag} {H H' : Hp} {a : Addr} {r : Rec} (s : Same H H') (h : OutR K H a r) : OutR K H' a r := OutAt.mono s h
def blk0 (x y : Int) : Stt := ⟨x, y, [], [], []⟩
def blkR (mem : List Int) (x y : Int) (b : List Sm) : Rec := recOf x y (runL (runS mem 3) b (blk0 x y))
/-- the list of the names with their values -/
def NamesAt (G : Hp) (a : Addr) (x y : Int) : Prop := ∃ t1 t2, G a = some (.lst [.ref t1, .ref t2]) ∧ G t1 = some (.tup [.str "x", .int x]) ∧ G t2 = some (.tup [.str "y", .int y])
theorem NamesAt.mono {G G' : Hp} (s : Same G G') {a : Addr} {x y : Int} : NamesAt G a x y → NamesAt G' a x y
  | ⟨t1, t2, h, h1, h2⟩ => ⟨t1, t2, s _ _ h, s _ _ h1, s _ _ h2⟩
/-- a call within a try -/
def tMethS (C : Addr) (m : Str) (sp : Sp) (E : L2.St → XK) (ta : TE) (t : TA) : TE := fun σ H Q => ta σ H fun x H1 => ∃ a dx fs, x = .ref a ∧ H1 a = some (.ins C dx fs) ∧ fs.lookup m = none ∧ t σ H1 fun vs H2 => sp (x :: vs) H2 Q (E σ)
theorem pe_methS {X : Cx} {CX : CXT} {k : Nat} {f C : Addr} {ps : List Str} {sp : Sp} {E : L2.St → XK} {m : Str} {pos apos : Pos} {e o : Expr} {es : List Expr} {ta : TE} {t : TA} {pl : Sem Bool} (he : PE X o ta) (c : Cls X.K C) (hm : Meth X.K C m f)
    (F : Pr X.prog X.w X.K X.mg X.base CX k f ps sp) (hr : Room k X.A) (hx : ∀ σ, PassesAt CX X σ (E σ)) (ha : PA X (e :: es) t)
    (hst : starEach (e :: es) X.env = (false, eval e X.env) :: starEach es X.env := by rfl) (hpl : (backTo pos (starEach es X.env)).any (·.1) = false := by rfl)
    (ht : eval (.Call (.Attribute o m apos) (e :: es) [] pos) X.env = (do
      let ov ← eval o X.env
      standAt apos.atName
      let (f, first) ← holding [ov] (getMethod ov m pl)
      callWith pos f first (backTo pos (starEach (e :: es) X.env)) (backToKw pos (keywordEach [] X.env))) := by rfl) :
    PE X (.Call (.Attribute o m apos) (e :: es) [] pos) (tMethS C m sp E ta t) := by
  obtain ⟨fd, F1, hb⟩ := F.ok
  constructor
  intro pins s σ H Q I h
  refine PySem.W.methodCall_KW (pl := pl) (thn (he.run pins s σ H _ I h) fun u s1 hh => ?_) ht
  obtain ⟨x, H1, I1, rx, a, dx, fs, ex, ea, l, q⟩ := hh
  subst ex
  cases rx
  refine getmeth_ok I1 ea c hm l (PySem.W.callWith_K (first := [.ref a]) (h₀ := X.base) I.ok.mod.kin hm.kp (thn (ha.run pos pins s1 σ H1 _ I1 q) fun us s2 h2 => ?_) hst hpl)
  obtain ⟨vs, H2, I2, r, q2⟩ := h2
  exact ⟨I2.kIn, run_fnS (us := .ref a :: us) (vs := .ref a :: vs) F1 hr hb (hx σ) I2 (.cons rfl r) q2⟩
section
variable {w : World} {K : PySem.W.Frag} {mg : Str → Option Value} {base : Heap}
theorem ended_b3 {fd : FuncData} (F : FunD K "ended" "ended" (defArgs sEnded) (defBody sEnded) (defScope sEnded) [.non] [] (He.ga K "ended") fd) :
    ∃ ds, Vals [V.non] ds ∧ Binds K fd ["kind", "reads", "before", "reason"] ds :=
  F.binds1 (ps := ["kind", "reads", "before", "reason"]) 3 0 (List.cons_ne_nil _ _) rfl fun T kV doc pm an cdv ct us its h1 h2 => match us, its, h1, h2 with | [_, _, _], [_], _, _ => ⟨_, rfl, rfl⟩
theorem ended_b4 {fd : FuncData} (F : FunD K "ended" "ended" (defArgs sEnded) (defBody sEnded) (defScope sEnded) [.non] [] (He.ga K "ended") fd) :
    Binds K fd ["kind", "reads", "before", "reason"] [] := by
  obtain ⟨ds, _, _⟩ := ended_b3 F
  obtain ⟨ds2, r, b⟩ := F.binds1 (ps := ["kind", "reads", "before", "reason"]) 4 1 (List.cons_ne_nil _ _) rfl fun T kV doc pm an cdv ct us its h1 h2 => match us, its, h1, h2 with | [_, _, _, _], [_], _, _ => ⟨_, rfl, rfl⟩
  cases r
  exact b
def spRunBlock (K : PySem.W.Frag) : Sp := fun vs H Q _ => ∃ (b : List Sm) (q ac d0 am : Addr) (x y : Int) (mem : List Int), vs = [.ref q, .ref ac, .ref d0, .ref am] ∧ BodyAt H (SmAt H 3) b q ∧ WfB 3 b ∧ CellsAt H ac ∧ NamesAt H d0 x y ∧ Ok1 x ∧ Ok1 y ∧
  H am = some (.lst (mem.map V.int)) ∧ MemOk mem ∧ ∀ a H', Same H H' → H a = none → OutR K (nw H H') a (blkR mem x y b) → Q (.ref a) H'
abbrev nRB : List Str := ["body", "cells", "locals_now", "memory", "runner", "before", "kind", "fault", "finals", "name", "value"]
theorem scRB : FnScope nRB ["body", "cells", "locals_now", "memory"] (defScope sRunBlock) := ⟨rfl, rfl, rfl, by decide +kernel, rfl, by decide +kernel, by decide +kernel⟩
theorem yes_then {σ : L2.St} {H : Hp} {A : Hp → Prop} {B : Hp → Prop} (h : A H) : tYes σ H (fun b H3 => if b = true then A H3 else B H3) := by
  show (if true = true then A H else B H)
  rw [if_pos rfl]
  exact h
theorem mergeK_loc (x y : Int) : mergeK [] [((Sum.inr "x" : Key), V.int x), ((Sum.inr "y" : Key), V.int y)] = locK x y := by
  have xy : ¬ (Sum.inr ("x" : Str) : Key) = Sum.inr ("y" : Str) := by decide +kernel
  show putK (putK [] (Sum.inr "x" : Key) (V.int x)) (Sum.inr "y" : Key) (V.int y) = _
  have e1 : putK [] (Sum.inr "x" : Key) (V.int x) = [((Sum.inr "x" : Key), V.int x)] := rfl
  rw [e1]
  unfold putK locK
  rw [valV_any, valV_neg xy]
  rfl
theorem ok_run_block (T : Txt K mg) (S : SupTxt K) : Pr PP w K mg base CX0 24 (He.ga K "run_block") ["body", "cells", "locals_now", "memory"] (spRunBlock K) := by
  refine T.f_run_block.pr scRB (fun _ _ _ _ _ _ us hl => match us, hl with | [_, _, _, _], _ => rfl) (fun vs H Q E h => ?_) (fun cdv A outer s H vs Q E hr h => ?_)
  · obtain ⟨b, q, ac, d0, am, x, y, mem, rfl, _⟩ := h
    rfl
  obtain ⟨b, q, ac, d0, am, x, y, mem, rfl, hb, wf, hc, hn, ox, oy, hm, mo, k⟩ := h
  have hu := hu_of hr
  obtain ⟨fdB, B1, B2⟩ := ok_binit (w := w) (base := base) T S
  obtain ⟨fdE, FE⟩ := T.f_ended
  obtain ⟨ds3, rd3, E3⟩ := ended_b3 FE
  have E4 := ended_b4 FE
  obtain ⟨fdO, FO⟩ := T.m_Outcome
  obtain ⟨mvO, KO⟩ := oi_kb4 FO
  have OE := ok_ended (P := PP) (w := w) (base := base) T FE
  have nR := T.bN "reads" (by decide +kernel)
  refine ⟨_, pss_cons (ps_set (i := 4) scRB.nd rfl (Or.inr rfl) (pe_make T.bMk B1 (hr.mono (by decide)) rfl (T.glo _ (by decide +kernel)) B2 .nil pass0 (pa_cons (pv 1) (pa_cons (pe_callTy (call_dictP rfl) rfl (T.free _ (by decide +kernel)) (by decide +kernel) (pa_cons (pv 2) pa_nil)) (pa_cons (pv 3) pa_nil)))))
    (pss_cons (ps_setLc (i := 5) (own := [("name", 9), ("value", 10)]) (g := gTup K 2 (gCons (gName 9) (gCons (gName 10) gNil))) (tt := tYes) rfl scRB.nd rfl rfl (sw_true rfl rfl rfl (by decide +kernel)) (pi_list (pv 2)) (blkOk_by (N := nRB) (sc := defScope sRunBlock) (by decide +kernel))
      (fun _ _ _ _ _ => pg_tup rfl (pgs_cons (pg_name (i := 9) scRB.nd rfl (Or.inl rfl) (Or.inr rfl)) (pgs_cons (pg_name (i := 10) scRB.nd rfl (Or.inl rfl) (Or.inr rfl)) pgs_nil))) (fun _ _ _ _ _ => pts_nil) (fun _ _ _ _ _ => pv 10))
    (pss_cons (ps_try_as (i := 7) (tb := fun W => tAsg (tMethS (aB K) "run" (spRun K 4) (WE W) (tVar 4) (tCons (tVar 0) tNil)) (gName 6))
      (ts := fun a cls d => tRet (tCall (spEnded K) [] E0 (tCons (tC (.str "fault")) (tCons (tFld K (tVar 4) "reads") (tCons (tVar 5) (tCons (tXf a cls d (aF K) "reason" (tVar 7)) tNil)))))) (Wout := fun _ _ _ _ => False) rfl rfl scRB.nd rfl rfl ⟨rfl, by decide, Or.inl (T.glo "Fault" (by decide +kernel))⟩ takes0
      (fun W pn xe tk _ => pss_one (ps_set (i := 6) scRB.nd rfl (Or.inl rfl) (by exact (pe_methS (pv 4) T.bC (T.bM "run" (by decide +kernel)) (ok_run T 4) (hr.mono (by decide)) (fun σ => passAt tk σ) (pa_cons (pv 0) pa_nil)))))
      (fun a oe cls d pn hz hf => pss_one (ps_ret (by exact (pe_callA OE (L2H.RoomH.mono (L2H.roomH_mark hr _) (by decide)) rfl (T.glo _ (by decide +kernel)) FE.kp E4 .nil (pa_cons pe_str (pa_cons (pe_fld (pv 4) rfl) (pa_cons (pv 5) (pa_cons (pe_xf T.xf T.nF hz hf (pv 7)) pa_nil)))))))))
    (pss_cons (ps_if (pt_cmpR op_ne (pv 6) pe_str (nomark _)) (pss_one (ps_ret (pe_callA OE (roomH_of (hr.mono (by decide))) rfl (T.glo _ (by decide +kernel)) FE.kp E3 rd3 (pa_cons (pv 6) (pa_cons (pe_fld (pv 4) rfl) (pa_cons (pv 5) pa_nil)))))) pss_nil)
    (pss_cons (ps_setLc (i := 8) (own := [("name", 9), ("value", 10)]) (g := gTup K 2 (gCons (gName 9) (gCons (gName 10) gNil))) (tt := tYes) rfl scRB.nd rfl rfl (sw_true rfl rfl rfl (by decide +kernel)) (pi_list (pv 2)) (blkOk_by (N := nRB) (sc := defScope sRunBlock) (by decide +kernel))
      (fun _ _ _ _ _ => pg_tup rfl (pgs_cons (pg_name (i := 9) scRB.nd rfl (Or.inl rfl) (Or.inr rfl)) (pgs_cons (pg_name (i := 10) scRB.nd rfl (Or.inl rfl) (Or.inr rfl)) pgs_nil))) (fun _ _ _ _ _ => pts_nil) (te := tDGet (tFld K (tVar 4) "locals_now") (tVar 9)) (fun _ _ _ _ _ => by exact (pe_dget hu (pe_fld (pv 4) rfl) (pv 9) (fun _ _ => rfl))))
    (pss_one (ps_ret (pe_makeKA (n := 1) T.oMk (ok_oinit T FO) (roomH_of (hr.mono (by decide))) rfl (T.glo _ (by decide +kernel)) KO (pa_cons pe_str pa_nil) (pk_cons (pe_fld (pv 4) rfl) (pk_cons (pe_fld (pv 4) rfl) (pk_cons (pv 8) (pk_cons (pe_fld (pv 4) rfl) pk_nil))))))))))), ?_⟩
  obtain ⟨t1, t2, hn0, hn1, hn2⟩ := hn
  refine ⟨_, rfl, _, rfl, d0, [t1, t2], [(Sum.inr "x", .int x), (Sum.inr "y", .int y)], rfl, SqL.of hn0, .cons (SqT.of hn1) (.cons (SqT.of hn2) .nil), fun p np => ⟨_, rfl, fun x' dx nx nd ne => ⟨x', dx, ac, p, am, mergeK [] [(Sum.inr "x", .int x), (Sum.inr "y", .int y)], rfl, upd_same, ?_, fun H1 dl dr dw al kp n1 n2 n3 n4 d1 d2 d3 g1 g2 g3 g4 g5 => ⟨rfl, ?_⟩⟩⟩⟩
  · have e : upd H p (.dK (mergeK [] [(Sum.inr "x", .int x), (Sum.inr "y", .int y)])) p = some (.dK (mergeK [] [(Sum.inr "x", .int x), (Sum.inr "y", .int y)])) := upd_same
    rw [upd_ne (ne_of_none e nx), upd_ne (ne_of_none e nd)]
    exact e
  have s1 : Same H H1 := fun b o e => by
    have e1 : upd H p (.dK (mergeK [] [(Sum.inr "x", .int x), (Sum.inr "y", .int y)])) b = some o := (upd_ne (ne_of_none e np)).trans e
    refine kp b o ?_ (ne_of_none e1 nx)
    rw [upd_ne (ne_of_none e1 nx), upd_ne (ne_of_none e1 nd)]
    exact e1
  have un : ∀ {c : Addr}, (upd (upd (upd H p (.dK (mergeK [] [(Sum.inr "x", .int x), (Sum.inr "y", .int y)]))) dx (.own x')) x' (.ins (aB K) dx [])) c = none → H c = none := fun z => NdefX.upd_none (NdefX.upd_none (NdefX.upd_none z))
  refine ⟨_, rfl, d0, rfl, ⟨_, SqL.of (s1 _ _ hn0)⟩, fun D nD => lc_list (K := K) (a := d0) (xs := [.ref t1, .ref t2]) (fun i H' => H' = upd H1 D (.lst ([V.int x, .int y].take i))) rfl (fun i H' _ e => ?_) (fun i v H' hi e => ?_) (fun H' e => ?_)⟩
  · subst e
    exact SqL.of (sm_upd nD _ _ _ (s1 _ _ hn0))
  · subst e
    match i, hi with
    | 0, hi =>
      cases hi
      refine ⟨t1, _, rfl, SqT.of (sm_upd nD _ _ _ (s1 _ _ hn1)), rfl, _, _, rfl, _, _, rfl, rfl, rfl, ?_⟩
      refine yes_then ⟨_, rfl, [], upd_same, (by show 0 < sizeLine; decide), upd_upd⟩
    | 1, hi =>
      cases hi
      refine ⟨t2, _, rfl, SqT.of (sm_upd nD _ _ _ (s1 _ _ hn2)), rfl, _, _, rfl, _, _, rfl, rfl, rfl, ?_⟩
      refine yes_then ⟨_, rfl, [.int x], upd_same, (by show 1 < sizeLine; decide), upd_upd⟩
    | i + 2, hi => simp at hi
  subst e
  have hD : H D = none := s1.free nD
  have sG : Same H (upd H D (.lst [V.int x, .int y])) := sm_upd hD _
  have fr : ∀ {c : Addr}, H c = none → c ≠ D → (upd H D (.lst [V.int x, .int y])) c = none := fun z q => (upd_ne q).trans z
  have R1 : RunAt K ⟨upd H D (.lst [V.int x, .int y]), x', ac, am, dr, mem⟩ ⟨dl, dw, al⟩ (upd H1 D (.lst [V.int x, .int y])) (blk0 x y) :=
    ⟨sm_both s1 D _, ⟨ox, oy, Cl.nil, Cl.nil⟩, dx, sm_upd nD _ _ _ g1, (by rw [← mergeK_loc]; exact sm_upd nD _ _ _ g2), sm_upd nD _ _ _ g3, sm_upd nD _ _ _ g4, sm_upd nD _ _ _ g5,
      fr (un n1) (ne_of_none g2 nD), fr (un n3) (ne_of_none g4 nD), fr (un n4) (ne_of_none g5 nD), d1, d2, d3⟩
  have fo : FxOk ⟨upd H D (.lst [V.int x, .int y]), x', ac, am, dr, mem⟩ := ⟨hc.mono sG, sG _ _ hm, mo, fr (NdefX.upd_none nx) (ne_of_none g1 nD), fr (un n2) (ne_of_none g3 nD)⟩
  refine ⟨_, rfl, x', dx, _, rfl, sm_upd nD _ _ _ g1, bf_none (by decide +kernel), _, rfl, _, ⟨dl, dw, al⟩, blk0 x y, b, q, rfl, fo, R1, hb.mono sG fun s v z => z.mono sG, wf, (by show 0 + 3 * cap 3 ≤ 1000000; decide), ?_⟩
  unfold blkR at k
  revert k
  cases runL (runS mem 3) b (blk0 x y) with | mk o st => ?_
  cases o with
  | fault r =>
    intro k A3 d H3 R3 hx
    refine ⟨true, T.eF, fun _ a0 na0 => ?_, fun z => Bool.noConfusion z⟩
    obtain ⟨dx3, h1, h2, h3, h4, h5, _⟩ := R3.at_
    refine ⟨_, rfl, x', aB K, dx3, _, _, rfl, h1, T.bC, nR, bf_reads, _, rfl, _, rfl, rfl, rfl, d, _, _, rfl, hx, lk_here, ?_⟩
    exact ⟨.str "fault", .str (wdS r), dr, D, kvI st.reads, [.int x, .int y], rfl, h3, R3.same _ _ upd_same, fun a H' s' na O => k a H' ((sG.trans R3.same).trans s') ((sG.trans R3.same).free na) (OutAt.mono (nw_base fun b hb => (sG.trans R3.same).free hb) O)⟩
  | retry =>
    intro k A3 H3 R3
    obtain ⟨dx3, h1, h2, h3, h4, h5, _⟩ := R3.at_
    refine ⟨_, rfl, rfl, _, rfl, iteNd (by decide +kernel) ⟨_, rfl, _, rfl, x', aB K, dx3, _, _, rfl, h1, T.bC, nR, bf_reads, _, rfl, ?_⟩⟩
    exact ⟨.str "retry", .non, dr, D, kvI st.reads, [.int x, .int y], rfl, h3, R3.same _ _ upd_same, fun a H' s' na O => k a H' ((sG.trans R3.same).trans s') ((sG.trans R3.same).free na) (OutAt.mono (nw_base fun b hb => (sG.trans R3.same).free hb) O)⟩
  | undo =>
    intro k A3 H3 R3
    obtain ⟨dx3, h1, h2, h3, h4, h5, _⟩ := R3.at_
    refine ⟨_, rfl, rfl, _, rfl, iteNd (by decide +kernel) ⟨_, rfl, _, rfl, x', aB K, dx3, _, _, rfl, h1, T.bC, nR, bf_reads, _, rfl, ?_⟩⟩
    exact ⟨.str "undo", .non, dr, D, kvI st.reads, [.int x, .int y], rfl, h3, R3.same _ _ upd_same, fun a H' s' na O => k a H' ((sG.trans R3.same).trans s') ((sG.trans R3.same).free na) (OutAt.mono (nw_base fun b hb => (sG.trans R3.same).free hb) O)⟩
  | done =>
    intro k A3 H3 R3
    obtain ⟨dx3, h1, h2, h3, h4, h5, _⟩ := R3.at_
    have nL := T.bN "locals_now" (by decide +kernel)
    have sH : Same H H3 := sG.trans R3.same
    refine ⟨_, rfl, rfl, _, rfl, if_f (by decide +kernel) ?_⟩
    refine ⟨_, rfl, d0, rfl, ⟨_, SqL.of (sH _ _ hn0)⟩, fun D2 nD2 => lc_list (K := K) (a := d0) (xs := [.ref t1, .ref t2]) (fun i H' => H' = upd H3 D2 (.lst ([V.int st.x, .int st.y].take i))) rfl (fun i H' _ e => ?_) (fun i v H' hi e => ?_) (fun H' e => ?_)⟩
    · subst e
      exact SqL.of (sm_upd nD2 _ _ _ (sH _ _ hn0))
    · subst e
      have h1' := sm_upd nD2 (.lst ([V.int st.x, .int st.y].take i)) _ _ h1
      have h2' := sm_upd nD2 (.lst ([V.int st.x, .int st.y].take i)) _ _ h2
      match i, hi with
      | 0, hi =>
        cases hi
        refine ⟨t1, _, rfl, SqT.of (sm_upd nD2 _ _ _ (sH _ _ hn1)), rfl, _, _, rfl, _, _, rfl, rfl, rfl, ?_⟩
        refine yes_then ⟨_, rfl, x', _, dx3, _, _, rfl, h1', T.bC, nL, bf_locals, _, rfl, A3.dl, .int st.x, rfl, ?_, [], upd_same, (by show 0 < sizeLine; decide), upd_upd⟩
        have z := DGet.k (k := (Sum.inr (lcS .x) : Key)) h2'
        rw [locK_get] at z
        exact z
      | 1, hi =>
        cases hi
        refine ⟨t2, _, rfl, SqT.of (sm_upd nD2 _ _ _ (sH _ _ hn2)), rfl, _, _, rfl, _, _, rfl, rfl, rfl, ?_⟩
        refine yes_then ⟨_, rfl, x', _, dx3, _, _, rfl, h1', T.bC, nL, bf_locals, _, rfl, A3.dl, .int st.y, rfl, ?_, [.int st.x], upd_same, (by show 1 < sizeLine; decide), upd_upd⟩
        have z := DGet.k (k := (Sum.inr (lcS .y) : Key)) h2'
        rw [locK_get] at z
        exact z
      | i + 2, hi => simp at hi
    subst e
    have sD := sm_upd nD2 (.lst [V.int st.x, .int st.y])
    have nW := T.bN "writes" (by decide +kernel)
    have nA := T.bN "later" (by decide +kernel)
    refine ⟨_, rfl, x', aB K, dx3, _, _, rfl, sD _ _ h1, T.bC, nR, bf_reads, _, rfl, x', aB K, dx3, _, _, rfl, sD _ _ h1, T.bC, nW, bf_writes, _, rfl, _, rfl, x', aB K, dx3, _, _, rfl, sD _ _ h1, T.bC, nA, bf_later, rfl, rfl, fun xo dxo nxo ndo neo => ?_⟩
    have keep : ∀ {c : Addr} {o : HO}, (upd H3 D2 (.lst [V.int st.x, .int st.y])) c = some o → (upd (upd (upd H3 D2 (.lst [V.int st.x, .int st.y])) dxo (.own xo)) xo (.ins (aO K) dxo [])) c = some o := fun {c o} e => by
      rw [upd_ne (ne_of_none e nxo), upd_ne (ne_of_none e ndo)]
      exact e
    refine ⟨xo, dxo, dr, A3.dw, D2, A3.al, .str "done", .non, kvI st.reads, kvI st.writes, [.int st.x, .int st.y], st.later.map V.int, rfl, upd_same, keep (sD _ _ h3), keep (sD _ _ h4), keep upd_same, keep (sD _ _ h5), fun H' kp O =>
      ⟨rfl, k xo H' (fun c o e => kp c o (keep (sD _ _ (sH _ _ e))) (ne_of_none (sD _ _ (sH _ _ e)) nxo)) ((sH.trans sD).free nxo) (OutAt.mono (nw_base fun b hb => ?_) O)⟩⟩
    by_cases e : b = xo
    · rw [e]; exact (sH.trans sD).free nxo
    · rw [wo_ne e] at hb
      exact (sH.trans sD).free (un0 (un0 hb))
end
end K13
set_option Elab.async false
set_option linter.all false
set_option maxRecDepth 100000
set_option maxHeartbeats 4000000
/-! K13Eq: == and != of what the law compares. -/
namespace K13N
open PySem PySem.SeqAt
open AutoSeq1 (wpAny_loadPart')
open MeetsSeq MeetsSeq2 MeetsSeq3 SeqRoads2
section
variable {prog : Program} {w : World}
/-- two tuples of the same size, equal item by item: != says False -/
theorem ne_all (l b : Addr) (items items2 : Array Value) (n n2 : Nat) (dd dd2 : Option Addr) (sl sl2 : Array (Option Value)) (hsz : items.size = items2.size) :
    MeetsIn prog w (Builtin.«tuple.__ne__» ⟨[.ref l, .ref b], []⟩)
      (fun A R s => s.heap.get? l = some ⟨.type "tuple", dd, .seq items n, sl⟩ ∧ s.heap.get? b = some ⟨.type "tuple", dd2, .seq items2 n2, sl2⟩ ∧
        (∀ j (h1 : j < items.size) (h2 : j < items2.size), EqP prog w A.in1 s items[j] items2[j] true) ∧ R (.ok (.ret (.bool false))) s) :=
  .of_wp fun A R s h => by
    obtain ⟨hp, g, d, tk, os⟩ := s
    obtain ⟨hl, hb, he, h⟩ := h
    have f2 := AutoSeq1.sub_tuple_tuple
    wp_walk using wpAny_loadPart' hl, wpAny_loadPart' hb, wpAny_forIn_list _ (fun rest b s' => b.1 = none ∧ s' = (⟨hp, g, d, tk, os⟩ : Shared) ∧ ∃ i, rest = (items.toList.zip items2.toList).drop i) _
    case turn =>
      rintro ⟨y, x⟩ rest b s' ⟨hb', rfl, i, hz⟩
      have hlt : i < (items.toList.zip items2.toList).length := Nat.lt_of_not_le fun h' => by
        rw [List.drop_of_length_le h'] at hz
        cases hz
      have hlt2 := hlt
      rw [List.length_zip, Array.length_toList, Array.length_toList] at hlt2
      have h1 : i < items.size := by omega
      have h2 : i < items2.size := by omega
      rw [List.drop_eq_getElem_cons hlt] at hz
      injection hz with hyx hrest
      have hy : y = items[i] := by simpa using congrArg Prod.fst hyx
      have hx : x = items2[i] := by simpa using congrArg Prod.snd hyx
      subst hy
      subst hx
      refine wpAny_bind (he i h1 h2 _ _ ?_)
      wp_walk
      exact ⟨rfl, rfl, i + 1, hrest⟩
    case fin =>
      rintro ⟨b1, b2⟩ s' ⟨hb', rfl, i, hz⟩
      cases hb'
      wp_walk
      exact ⟨_, rfl, by simpa [Builtin.Tuple.tupleCompareSizes, bne, hsz] using h⟩
    case h => exact ⟨rfl, rfl, 0, rfl⟩
theorem tuples_ne {A : Around} {s : Shared} {E : Value → Shared → Prop} {l b : Addr} {items items2 : Array Value} {Q : Value → Shared → Prop} (hl : s.heap.IsTuple l items) (hb : s.heap.IsTuple b items2) (hsz : items.size = items2.size) (hu : A.units < cLine)
    (he : ∀ j (h1 : j < items.size) (h2 : j < items2.size), EqP prog w A.in1 s items[j] items2[j] true) (h : Q (.bool false) s) : wpAny (model prog w) A (compareOp .NotEq (.ref l) (.ref b)) Q E s := by
  obtain ⟨⟨c1, dd, t1, sl⟩, ho, hc, n, hd⟩ := id hl
  obtain ⟨⟨c2, dd2, t2, sl2⟩, ho2, hc2, n2, hd2⟩ := id hb
  simp only at hc hd hc2 hd2
  subst hc hd hc2 hd2
  exact wpAny_richCompare_same_room (T := "tuple") (op := .NotEq) ⟨_, ho, rfl⟩ ⟨_, ho2, rfl⟩ F.slot_tuple_ne
    (call_meetsIn F.slot_tuple_ne ⟨_, ho, rfl⟩ F.entry_tuple_ne (F.args_tuple_ne_2 _ _) (ne_all l b items items2 n n2 dd dd2 sl sl2 hsz) ⟨ho, ho2, he, show Value.bool false ≠ Value.notImplemented ∧ Q (.bool false) s from ⟨(fun x => nomatch x), h⟩⟩) hu
end
end K13N
namespace K13
open PySem PySem.Spec PyProof.Rows L2
/-! ### lists of ints, dicts of ints: the same, or of another length -/
def rEqI (K : PySem.W.Frag) : R2 := fun x y H Q => ∃ (a b : Addr) (l1 l2 : List Int), x = .ref a ∧ y = .ref b ∧ SqL K H a (l1.map V.int) ∧ SqL K H b (l2.map V.int) ∧ ((l1 = l2 ∧ Q (.bl true) H) ∨ (l1.length ≠ l2.length ∧ Q (.bl false) H))
def rNeK : R2 := fun x y H Q => ∃ (a b : Addr) (ks ls : List (Key × V)), x = .ref a ∧ y = .ref b ∧ H a = some (.dK ks) ∧ H b = some (.dK ls) ∧ ((ks = ls ∧ (ks.map (·.1)).Nodup ∧ (∀ p ∈ ks, flatB p.2 = true) ∧ Q (.bl false) H) ∨ (ks.length ≠ ls.length ∧ Q (.bl true) H))
theorem same_items {A : Around} {s : Shared} : ∀ {xs : List V} {us ws : List Value}, (∀ x ∈ xs, flatB x = true) → Vals xs us → Vals xs ws → ∀ j (h1 : j < us.length) (h2 : j < ws.length), SeqAt.EqAt A s us[j] ws[j] true
  | [], _, _, _, .nil, _, j, h1, _ => absurd h1 (Nat.not_lt_zero j)
  | x :: xs, _, _, f, .cons a1 b1, .cons a2 b2, 0, _, _ => eqAt_same a1 a2 (f x List.mem_cons_self)
  | x :: xs, _, _, f, .cons a1 b1, .cons a2 b2, j + 1, h1, h2 => same_items (fun y hy => f y (List.mem_cons_of_mem _ hy)) b1 b2 j (Nat.lt_of_succ_lt_succ h1) (Nat.lt_of_succ_lt_succ h2)
theorem all_true {n : Nat} : (List.range n).all (fun _ => true) = true := by simp
section
variable {X : Cx}
theorem op_eqI (hu : X.A.units < cLine) : OpR X (compareOp .Eq) (rEqI X.K) := by
  intro pins s σ H x y v u Q I rx ry h
  obtain ⟨a, b, l1, l2, rfl, rfl, h1, h2, h⟩ := h
  cases rx
  cases ry
  obtain ⟨us, r1, p1, _⟩ := I.list h1
  obtain ⟨ws, r2, p2, _⟩ := I.list h2
  obtain ⟨o1, n1, e1, c1, _, d1⟩ := p1
  obtain ⟨o2, n2, e2, c2, _, d2⟩ := p2
  have i1 : s.heap.IsList a us.toArray := ⟨o1, e1, c1, n1, d1⟩
  have i2 : s.heap.IsList b ws.toArray := ⟨o2, e2, c2, n2, d2⟩
  have z1 : us.length = l1.length := by rw [← r1.length, List.length_map]
  have z2 : ws.length = l2.length := by rw [← r2.length, List.length_map]
  rcases h with ⟨rfl, q⟩ | ⟨hn, q⟩
  · refine SeqAt.eq_listAt (e := fun _ => true) i1 i2 (by rw [List.size_toArray, List.size_toArray, z1, z2]) hu (fun j k1 k2 => ?_) (fin_bl I q all_true.symm)
    refine same_items (fun x hx => ?_) r1 r2 j (by simpa using k1) (by simpa using k2)
    obtain ⟨z, _, rfl⟩ := List.mem_map.mp hx
    rfl
  · exact SeqAt.eq_list_lengthsAt i1 i2 (by rw [List.size_toArray, List.size_toArray, z1, z2]; simpa using hn) hu (fin_bl I q rfl)
theorem op_neK (hu : X.A.units < cLine) : OpR X (compareOp .NotEq) rNeK := by
  intro pins s σ H x y v u Q I rx ry h
  obtain ⟨a, b, ks, ls, rfl, rfl, ea, eb, h⟩ := h
  cases rx
  cases ry
  obtain ⟨_, ya, va, ra, da⟩ := (show ObjOk X.prog X.w H s.heap a (.dK ks) from I.hok a _ ea)
  obtain ⟨_, yb, vb, rb, db⟩ := (show ObjOk X.prog X.w H s.heap b (.dK ls) from I.hok b _ eb)
  have z1 : va.length = ks.length := ra.length.symm
  have z2 : vb.length = ls.length := rb.length.symm
  rcases h with ⟨rfl, nd, fl, q⟩ | ⟨hn, q⟩
  · exact PySem.W.keq_ne (knd := mixKind X.prog X.w) (r := true) ya yb da db hu (fun _ => hits_all rb ra fun p hp => ⟨val_nodup nd p hp, fl p hp⟩) (fin_bl I q (by simp [z1, z2]))
  · exact PySem.W.keq_ne (knd := mixKind X.prog X.w) (r := true) ya yb da db hu (fun e => absurd (z1.symm.trans (e.trans z2)) hn) (fin_bl I q (by rw [z1, z2]; simp [hn]))
end
/-! ### tuples, lists, dicts that are equal -/
def EqW (K : PySem.W.Frag) (H : Hp) : Nat → V → V → Prop
  | 0 => fun _ _ => False
  | n + 1 => fun x y => (x = y ∧ flatB x = true) ∨ (∃ a, x = .ref a ∧ y = .ref a) ∨ (∃ a b xs ys, x = .ref a ∧ y = .ref b ∧ SqL K H a xs ∧ SqL K H b ys ∧ Paired (EqW K H n) xs ys) ∨
      (∃ a b xs ys, x = .ref a ∧ y = .ref b ∧ SqT K H a xs ∧ SqT K H b ys ∧ Paired (EqW K H n) xs ys) ∨ ∃ (a b : Addr) (ks : List (Key × V)), x = .ref a ∧ y = .ref b ∧ H a = some (.dK ks) ∧ H b = some (.dK ks) ∧ (ks.map (·.1)).Nodup ∧ ∀ p ∈ ks, flatB p.2 = true
def rNeT (K : PySem.W.Frag) : R2 := fun x y H Q => ∃ n a b xs ys, n ≤ 60 ∧ x = .ref a ∧ y = .ref b ∧ SqT K H a xs ∧ SqT K H b ys ∧ Paired (EqW K H n) xs ys ∧ Q (.bl false) H
section
variable {X : Cx} {pins : List (Addr × Obj)} {σ : L2.St} {H : Hp} {s : Shared}
theorem eqW_run (I : Inv X pins σ H s) : ∀ (n : Nat) (A : Around), A.units + n < cLine → ∀ (x y : V) (v u : Value), EqW X.K H n x y → L2.RelV x v → L2.RelV y u → SeqAt.EqP X.prog X.w A s v u true
  | 0, _, _, _, _, _, _, h, _, _ => (show False from h).elim
  | n + 1, A, hu, x, y, v, u, h, rx, ry => by
    have ih := eqW_run I n A.in1 (by show A.units + 1 + n < cLine; omega)
    rcases h with ⟨rfl, f⟩ | ⟨a, rfl, rfl⟩ | ⟨a, b, xs, ys, rfl, rfl, ha, hb, hp⟩ | ⟨a, b, xs, ys, rfl, rfl, ha, hb, hp⟩ | ⟨a, b, ks, rfl, rfl, ha, hb, nd, fl⟩
    · exact (eqAt_same rx ry f).eqP
    · cases rx
      cases ry
      exact (SeqAt.EqAt.same _).eqP
    · cases rx
      cases ry
      by_cases e : a = b
      · subst e
        exact (SeqAt.EqAt.same _).eqP
      obtain ⟨us, r1, ⟨o1, n1, e1, c1, _, d1⟩, _⟩ := I.list ha
      obtain ⟨ws, r2, ⟨o2, n2, e2, c2, _, d2⟩, _⟩ := I.list hb
      have hz : us.toArray.size = ws.toArray.size := by rw [List.size_toArray, List.size_toArray, ← r1.length, ← r2.length]; exact hp.length
      refine SeqAt.eqP_refs e fun E Q q => SeqAt.rcIn_lists (e := fun _ => true) ⟨o1, e1, c1, n1, d1⟩ ⟨o2, e2, c2, n2, d2⟩ hz (by omega) (fun j k1 k2 => ?_) (by rw [all_true]; exact q)
      exact items_run ih hp r1 r2 j (by simpa using k1) (by simpa using k2)
    · cases rx
      cases ry
      by_cases e : a = b
      · subst e
        exact (SeqAt.EqAt.same _).eqP
      obtain ⟨us, r1, ⟨o1, e1, c1, n1, d1⟩, _⟩ := I.tuple ha
      obtain ⟨ws, r2, ⟨o2, e2, c2, n2, d2⟩, _⟩ := I.tuple hb
      have hz : us.toArray.size = ws.toArray.size := by rw [List.size_toArray, List.size_toArray, ← r1.length, ← r2.length]; exact hp.length
      refine SeqAt.eqP_refs e fun E Q q => SeqAt.rcIn_tuples (e := fun _ => true) ⟨o1, e1, c1, n1, d1⟩ ⟨o2, e2, c2, n2, d2⟩ (by omega) (fun j k1 k2 => ?_) (by rw [all_true, hz]; simpa using q)
      exact items_run ih hp r1 r2 j (by simpa using k1) (by simpa using k2)
    · cases rx
      cases ry
      by_cases e : a = b
      · subst e
        exact (SeqAt.EqAt.same _).eqP
      obtain ⟨_, ya, va, ra, da⟩ := (show ObjOk X.prog X.w H s.heap a (.dK ks) from I.hok a _ ha)
      obtain ⟨_, yb, vb, rb, db⟩ := (show ObjOk X.prog X.w H s.heap b (.dK ks) from I.hok b _ hb)
      have z : va.length = vb.length := ra.length.symm.trans rb.length
      refine SeqAt.eqP_refs e fun E Q q => PySem.W.keq_eq (knd := mixKind X.prog X.w) (r := true) ya yb da db (by omega) (fun _ => hits_all rb ra fun p hp => ⟨val_nodup nd p hp, fl p hp⟩) ?_
      rw [z]
      simpa using q
theorem op_neT (hu : X.A.units + 64 < cLine) : OpR X (compareOp .NotEq) (rNeT X.K) := by
  intro pins s σ H x y v u Q I rx ry h
  obtain ⟨n, a, b, xs, ys, hn, rfl, rfl, ha, hb, hp, q⟩ := h
  cases rx
  cases ry
  obtain ⟨us, r1, ⟨o1, e1, c1, n1, d1⟩, _⟩ := I.tuple ha
  obtain ⟨ws, r2, ⟨o2, e2, c2, n2, d2⟩, _⟩ := I.tuple hb
  have hz : us.toArray.size = ws.toArray.size := by rw [List.size_toArray, List.size_toArray, ← r1.length, ← r2.length]; exact hp.length
  refine K13N.tuples_ne ⟨o1, e1, c1, n1, d1⟩ ⟨o2, e2, c2, n2, d2⟩ hz (by omega) (fun j k1 k2 => ?_) (fin_bl I q rfl)
  exact items_run (eqW_run I n X.A.in1 (by show X.A.units + 1 + n < cLine; omega)) hp r1 r2 j (by simpa using k1) (by simpa using k2)
end
end K13
set_option Elab.async false
set_option linter.all false
set_option maxRecDepth 100000
set_option maxHeartbeats 4000000
/-! K13P6: same_outcome. -/
namespace K13
open PySem PySem.Spec PyProof.Rows L2
/-- whose dicts have each key once -/
structure RecOk (r : Rec) : Prop where
  rd : (r.rd.map (·.1)).Nodup
  wr : (r.wr.map (·.1)).Nodup
  re : r.re = .non ∨ ∃ z, r.re = .str z
theorem kvI_nodup {l : List (Int × Int)} (h : (l.map (·.1)).Nodup) : ((kvI l).map (·.1)).Nodup := by
  unfold kvI
  rw [List.map_map]
  have e : ((fun p : Key × V => p.1) ∘ fun p : Int × Int => ((Sum.inl p.1 : Key), V.int p.2)) = (fun z : Int => (Sum.inl z : Key)) ∘ fun p : Int × Int => p.1 := rfl
  rw [e, ← List.map_map]
  exact List.Pairwise.map _ (fun a b q z => q (Sum.inl.inj z)) h
theorem kvI_flat {l : List (Int × Int)} : ∀ p ∈ kvI l, flatB p.2 = true := fun p hp => by
  obtain ⟨q, _, rfl⟩ := List.mem_map.mp hp
  rfl
/-- the first part that differs, or none -/
def Told (r1 r2 : Rec) (t f : Prop) : Prop :=
  (r1.k ≠ r2.k ∧ f) ∨ (r1.k = r2.k ∧ ((r1.rd.length ≠ r2.rd.length ∧ f) ∨ (r1.rd = r2.rd ∧ ((r1.wr.length ≠ r2.wr.length ∧ f) ∨ (r1.wr = r2.wr ∧ ((r1.fi.length ≠ r2.fi.length ∧ f) ∨ (r1.fi = r2.fi ∧ ((r1.la.length ≠ r2.la.length ∧ f) ∨ (r1.la = r2.la ∧ t)))))))))
def spSame (K : PySem.W.Frag) : Sp := fun vs H Q _ => ∃ (a b : Addr) (r1 r2 : Rec), vs = [.ref a, .ref b] ∧ OutR K H a r1 ∧ OutR K H b r2 ∧ RecOk r1 ∧ r1.re = r2.re ∧ Told r1 r2 (Q (.bl true) H) (Q (.bl false) H)
section
variable {P : Program} {w : World} {K : PySem.W.Frag} {mg : Str → Option Value} {base : Heap}
theorem scSame : FnScope ["outcome", "other"] ["outcome", "other"] (defScope sSame) := ⟨rfl, rfl, rfl, by decide +kernel, rfl, by decide +kernel, by decide +kernel⟩
theorem ok_same (T : Txt K mg) : Pr P w K mg base CX0 1 (He.ga K "same_outcome") ["outcome", "other"] (spSame K) := by
  refine T.f_same_outcome.pr scSame (fun _ _ _ _ _ _ us hl => match us, hl with | [_, _], _ => rfl) (fun vs H Q E h => ?_) (fun cdv A outer s H vs Q E hr h => ?_)
  · obtain ⟨a, b, r1, r2, rfl, _⟩ := h
    rfl
  have hu := hu_of hr
  have hu0 : (A.deeper (envOfC "same_outcome" (defScope sSame) s.heap.objs.size (He.ga K "same_outcome") cdv)).units < cLine := by omega
  obtain ⟨a, b, r1, r2, rfl, ⟨da, ra, wa, fa, la, o1, o2, o3, o4, o5⟩, ⟨db, rb, wb, fb, lb, u1, u2, u3, u4, u5⟩, ok, er, h⟩ := h
  refine ⟨_, pss_cons (ps_if (PW.pt (pw_or (pt_cmpR op_ne (pe_fld (pv 0) rfl) (pe_fld (pv 1) rfl) (nomark _)) (pw_or1 (pt_cmpR op_ne (pe_fld (pv 0) rfl) (pe_fld (pv 1) rfl) (nomark _))))) (pss_one (ps_ret pe_bl)) pss_nil)
    (pss_cons (ps_if (PW.pt (pw_or (pt_cmpR (op_neK hu0) (pe_fld (pv 0) rfl) (pe_fld (pv 1) rfl) (nomark _)) (pw_or1 (pt_cmpR (op_neK hu0) (pe_fld (pv 0) rfl) (pe_fld (pv 1) rfl) (nomark _))))) (pss_one (ps_ret pe_bl)) pss_nil)
    (pss_one (ps_ret (pe_and (pe_cmpR (op_eqI hu0) (pe_fld (pv 0) rfl) (pe_fld (pv 1) rfl) (nomark _)) (pe_one (pe_cmpR (op_eqI hu0) (pe_fld (pv 0) rfl) (pe_fld (pv 1) rfl) (nomark _))))))), ?_⟩
  have nn : ∀ f ∈ oflds, NoAttr K (aO K) f := T.oN
  have sk : scal r1.re r1.re = true := by
    rcases ok.re with e | ⟨z, e⟩ <;> rw [e] <;> rfl
  refine ⟨_, rfl, a, aO K, da, _, _, rfl, o1, T.oC, nn _ (by decide +kernel), of_kind, _, rfl, b, aO K, db, _, _, rfl, u1, T.oC, nn _ (by decide +kernel), of_kind, rfl, _, rfl, ?_⟩
  rcases h with ⟨hk, h⟩ | ⟨hk, h⟩
  · refine if_t (by simpa using hk) ?_
    exact if_t rfl h
  refine if_f (by simpa using hk) ⟨_, rfl, a, aO K, da, _, _, rfl, o1, T.oC, nn _ (by decide +kernel), of_reason, _, rfl, b, aO K, db, _, _, rfl, u1, T.oC, nn _ (by decide +kernel), of_reason, ?_⟩
  rw [← er]
  refine ⟨sk, _, rfl, if_f (by simp) ?_⟩
  refine ⟨_, rfl, a, aO K, da, _, _, rfl, o1, T.oC, nn _ (by decide +kernel), of_reads, _, rfl, b, aO K, db, _, _, rfl, u1, T.oC, nn _ (by decide +kernel), of_reads, ra, rb, _, _, rfl, rfl, o2, u2, ?_⟩
  rcases h with ⟨hk, h⟩ | ⟨hk, h⟩
  · refine .inr ⟨by rw [kvI_len, kvI_len]; exact hk, _, rfl, if_t rfl (if_t rfl h)⟩
  refine .inl ⟨by rw [hk], kvI_nodup ok.rd, kvI_flat, _, rfl, if_f rfl ?_⟩
  refine ⟨_, rfl, a, aO K, da, _, _, rfl, o1, T.oC, nn _ (by decide +kernel), of_writes, _, rfl, b, aO K, db, _, _, rfl, u1, T.oC, nn _ (by decide +kernel), of_writes, wa, wb, _, _, rfl, rfl, o3, u3, ?_⟩
  rcases h with ⟨hk, h⟩ | ⟨hk, h⟩
  · refine .inr ⟨by rw [kvI_len, kvI_len]; exact hk, _, rfl, if_t rfl h⟩
  refine .inl ⟨by rw [hk], kvI_nodup ok.wr, kvI_flat, _, rfl, if_f rfl ?_⟩
  refine ⟨_, rfl, a, aO K, da, _, _, rfl, o1, T.oC, nn _ (by decide +kernel), of_finals, _, rfl, b, aO K, db, _, _, rfl, u1, T.oC, nn _ (by decide +kernel), of_finals, fa, fb, _, _, rfl, rfl, SqL.of o4, SqL.of u4, ?_⟩
  rcases h with ⟨hk, h⟩ | ⟨hk, h⟩
  · exact .inr ⟨hk, _, rfl, if_f rfl h⟩
  refine .inl ⟨hk, _, rfl, if_t rfl ?_⟩
  refine ⟨_, rfl, a, aO K, da, _, _, rfl, o1, T.oC, nn _ (by decide +kernel), of_later, _, rfl, b, aO K, db, _, _, rfl, u1, T.oC, nn _ (by decide +kernel), of_later, la, lb, _, _, rfl, rfl, SqL.of o5, SqL.of u5, ?_⟩
  rcases h with ⟨hk, h⟩ | ⟨hk, h⟩
  · exact .inr ⟨hk, h⟩
  · exact .inl ⟨hk, h⟩
end
end K13
set_option Elab.async false
set_option linter.all false
set_option maxRecDepth 100000
set_option maxHeartbeats 4000000
/-! K13L1: the law's own _law_in_range, _law_two, _law_place. -/
namespace K13
open PySem PySem.Spec PyProof.Rows L2
section
variable {P : Program} {w : World} {K : PySem.W.Frag} {mg : Str → Option Value} {base : Heap}
/-- a number, or None out of range -/
def inR (n : Int) : V := if -1000000000 ≤ n ∧ n ≤ 1000000000 then .int n else .non
/-- a value and a word, or None and the reason -/
def PairOf (e : Except Wd Int) (l : List V) : Prop := match e with
  | .ok z => ∃ s : Str, l = [.int z, .str s]
  | .error r => l = [.non, .str (wdS r)]
theorem pairOf_ck (n : Int) : PairOf (ckV n) [inR n, .str "range"] := by
  unfold inR ckV
  by_cases c : -1000000000 ≤ n ∧ n ≤ 1000000000
  · rw [if_pos c, if_pos c]
    exact ⟨_, rfl⟩
  · rw [if_neg c, if_neg c]
    rfl
def spInRange : Sp := fun vs H Q _ => ∃ n : Int, vs = [.int n] ∧ Q (inR n) H
theorem scInRange : FnScope ["_law_number_here"] ["_law_number_here"] (defScope sInRange) := ⟨rfl, rfl, rfl, by decide +kernel, rfl, by decide +kernel, by decide +kernel⟩
theorem ok_inRange (T : Txt K mg) : Pr P w K mg base CX0 1 (He.ga K "_law_in_range") ["_law_number_here"] spInRange := by
  refine T.f_law_in_range.pr scInRange (fun _ _ _ _ _ _ us hl => match us, hl with | [_], _ => rfl) (fun vs H Q E h => ?_) (fun cdv A outer s H vs Q E hr h => ?_)
  · obtain ⟨n, rfl, _⟩ := h
    rfl
  obtain ⟨n, rfl, h⟩ := h
  refine ⟨_, pss_cons (ps_if (pt_chain op_le op_le (pe_un un_neg pe_int) (pv 0) pe_int) (pss_one (ps_ret (pv 0))) pss_nil) (pss_one (ps_ret pe_non)), ?_⟩
  refine ⟨_, rfl, _, rfl, _, _, rfl, rfl, _, rfl, ?_⟩
  unfold inR at h
  by_cases c1 : -1000000000 ≤ n
  · refine if_t (decide_eq_true c1) ⟨_, _, rfl, rfl, _, rfl, ?_⟩
    by_cases c2 : n ≤ 1000000000
    · rw [if_pos ⟨c1, c2⟩] at h
      exact if_t (decide_eq_true c2) ⟨_, rfl, h⟩
    · rw [if_neg fun q => c2 q.2] at h
      exact if_f (decide_eq_false c2) h
  · rw [if_neg fun q => c1 q.1] at h
    refine if_f (decide_eq_false c1) ⟨_, rfl, ?_⟩
    exact if_f rfl h
/-! ### two -/
def spLTwo : Sp := fun vs H Q _ => ∃ (k : Bk) (v z : Int), vs = [.str (bkS k), .int v, .int z] ∧ isAr k = true ∧ Ok1 v ∧ Ok1 z ∧ ∀ (p : Addr) (H' : Hp) (l : List V), Same H H' → H p = none → H' p = some (.tup l) → PairOf (twoV k v z) l → Q (.ref p) H'
theorem scLTwo : FnScope ["_law_kind", "_law_first", "_law_second"] ["_law_kind", "_law_first", "_law_second"] (defScope sTwo) := ⟨rfl, rfl, rfl, by decide +kernel, rfl, by decide +kernel, by decide +kernel⟩
theorem ok_lTwo (T : Txt K mg) : Pr P w K mg base CX0 2 (He.ga K "_law_two") ["_law_kind", "_law_first", "_law_second"] spLTwo := by
  refine T.f_law_two.pr scLTwo (fun _ _ _ _ _ _ us hl => match us, hl with | [_, _, _], _ => rfl) (fun vs H Q E h => ?_) (fun cdv A outer s H vs Q E hr h => ?_)
  · obtain ⟨k, v, z, rfl, _⟩ := h
    rfl
  obtain ⟨k, v, z, rfl, ha, ov, oz, h⟩ := h
  refine ⟨_, pss_cons (ps_if (pt_cmpR op_eq (pv 0) pe_str (nomark _)) (pss_one (ps_ret (pe_tup (pa_cons (pe_callP (ok_inRange T) (hr.mono (by decide)) rfl (T.glo _ (by decide +kernel)) pass0 (pa_cons (pe_op op_add (pv 1) (pv 2)) pa_nil)) (pa_cons pe_str pa_nil))))) pss_nil) (pss_cons (ps_if (pt_cmpR op_eq (pv 0) pe_str (nomark _)) (pss_one (ps_ret (pe_tup (pa_cons (pe_callP (ok_inRange T) (hr.mono (by decide)) rfl (T.glo _ (by decide +kernel)) pass0 (pa_cons (pe_op op_sub (pv 1) (pv 2)) pa_nil)) (pa_cons pe_str pa_nil))))) pss_nil) (pss_cons (ps_if (pt_cmpR op_eq (pv 0) pe_str (nomark _)) (pss_one (ps_ret (pe_tup (pa_cons (pe_callP (ok_inRange T) (hr.mono (by decide)) rfl (T.glo _ (by decide +kernel)) pass0 (pa_cons (pe_op op_mul (pv 1) (pv 2)) pa_nil)) (pa_cons pe_str pa_nil))))) pss_nil) (pss_cons (ps_if (pt_cmpR op_in_seq (pv 0) (pe_lst (pa_cons pe_str (pa_cons pe_str pa_nil))) rfl) (pss_cons (ps_if (pt_cmpR op_eq (pv 2) pe_int (nomark _)) (pss_one (ps_ret (pe_tup (pa_cons (pe_non) (pa_cons pe_str pa_nil))))) pss_nil) (pss_cons (ps_if (pt_cmpR op_eq (pv 0) pe_str (nomark _)) (pss_one (ps_ret (pe_tup (pa_cons (pe_callP (ok_inRange T) (hr.mono (by decide)) rfl (T.glo _ (by decide +kernel)) pass0 (pa_cons (pe_op op_fdivN (pv 1) (pv 2)) pa_nil)) (pa_cons pe_str pa_nil))))) pss_nil) (pss_one (ps_ret (pe_tup (pa_cons (pe_callP (ok_inRange T) (hr.mono (by decide)) rfl (T.glo _ (by decide +kernel)) pass0 (pa_cons (pe_op op_sub (pv 1) (pe_op op_mul (pv 2) (pe_op op_fdivN (pv 1) (pv 2)))) pa_nil)) (pa_cons pe_str pa_nil))))))) pss_nil) (pss_cons (ps_if (pt_cmpR op_eq (pv 0) pe_str (nomark _)) (pss_one (ps_ret (pe_tup (pa_cons (pe_callTy call_int1 rfl (T.free _ (by decide +kernel)) (by decide +kernel) (pa_cons (pe_cmpR op_lt (pv 1) (pv 2) (nomark _)) pa_nil)) (pa_cons pe_str pa_nil))))) pss_nil) (pss_cons (ps_if (pt_cmpR op_eq (pv 0) pe_str (nomark _)) (pss_one (ps_ret (pe_tup (pa_cons (pe_callTy call_int1 rfl (T.free _ (by decide +kernel)) (by decide +kernel) (pa_cons (pe_cmpR op_le (pv 1) (pv 2) (nomark _)) pa_nil)) (pa_cons pe_str pa_nil))))) pss_nil) (pss_one (ps_ret (pe_tup (pa_cons (pe_callTy call_int1 rfl (T.free _ (by decide +kernel)) (by decide +kernel) (pa_cons (pe_cmpR op_eq (pv 1) (pv 2) (nomark _)) pa_nil)) (pa_cons pe_str pa_nil)))))))))), ?_⟩
  have div : z ≠ 0 → CDivN v z := fun hz => ⟨hz, by have := oz.1; have := oz.2; omega⟩
  have n0 : ∀ {A B : Prop}, (z = 0 → A) → (z ≠ 0 → B) → if decide (V.int z = V.int 0) = true then A else B := fun h1 h2 => by
    by_cases q : z = 0
    · exact if_t (decide_eq_true (congrArg V.int q)) (h1 q)
    · exact if_f (decide_eq_false fun e => q (V.int.inj e)) (h2 q)
  -- the pair is made
  have mk : ∀ {H1 : Hp} {l : List V}, Same H H1 → PairOf (twoV k v z) l → ∀ p, H1 p = none → Q (.ref p) (upd H1 p (.tup l)) := fun {H1 l} s1 pr p np => h p _ l (s1.trans (sm_upd np _)) (s1.free np) upd_same pr
  refine ⟨_, rfl, rfl, _, rfl, ?_⟩
  cases k with
  | plus => exact st_t (by decide +kernel) ⟨_, rfl, _, rfl, _, _, rfl, rfl, _, rfl, two_line, fun p np => mk (.refl _) (pairOf_ck _) p np⟩
  | and => cases ha
  | or => cases ha
  | minus => exact st_f (by decide +kernel) ⟨_, rfl, rfl, _, rfl, st_t (by decide +kernel) ⟨_, rfl, _, rfl, _, _, rfl, rfl, _, rfl, two_line, fun p np => mk (.refl _) (pairOf_ck _) p np⟩⟩
  | times => exact st_f (by decide +kernel) ⟨_, rfl, rfl, _, rfl, st_f (by decide +kernel) ⟨_, rfl, rfl, _, rfl, st_t (by decide +kernel) ⟨_, rfl, _, rfl, _, _, rfl, rfl, mul_ok ov, _, rfl, two_line, fun p np => mk (.refl _) (pairOf_ck _) p np⟩⟩⟩
  | over =>
    refine st_f (by decide +kernel) ⟨_, rfl, rfl, _, rfl, st_f (by decide +kernel) ⟨_, rfl, rfl, _, rfl, st_f (by decide +kernel) ⟨_, rfl, two_line, fun p np => ?_⟩⟩⟩
    refine ⟨p, _, rfl, .inl (SqL.of upd_same), rfl, rfl, _, rfl, if_t (by decide +kernel) ?_⟩
    refine ⟨_, rfl, rfl, _, rfl, n0 (fun q => ?_) fun q => ?_⟩
    · exact ⟨two_line, fun p2 np2 => mk (sm_upd np _) (by rw [show twoV .over v z = .error .zero from if_pos q]; rfl) p2 np2⟩
    · refine ⟨_, rfl, rfl, _, rfl, st_t (by decide +kernel) ⟨_, rfl, _, rfl, _, _, rfl, rfl, div q, _, rfl, two_line, fun p2 np2 => mk (sm_upd np _) ?_ p2 np2⟩⟩
      rw [show twoV .over v z = ckV (v.fdiv z) from if_neg q]
      exact pairOf_ck _
  | rest =>
    refine st_f (by decide +kernel) ⟨_, rfl, rfl, _, rfl, st_f (by decide +kernel) ⟨_, rfl, rfl, _, rfl, st_f (by decide +kernel) ⟨_, rfl, two_line, fun p np => ?_⟩⟩⟩
    refine ⟨p, _, rfl, .inl (SqL.of upd_same), rfl, rfl, _, rfl, if_t (by decide +kernel) ?_⟩
    refine ⟨_, rfl, rfl, _, rfl, n0 (fun q => ?_) fun q => ?_⟩
    · exact ⟨two_line, fun p2 np2 => mk (sm_upd np _) (by rw [show twoV .rest v z = .error .zero from if_pos q]; rfl) p2 np2⟩
    · refine ⟨_, rfl, rfl, _, rfl, st_f (by decide +kernel) ⟨_, rfl, _, rfl, _, rfl, _, rfl, _, _, rfl, rfl, div q, _, _, rfl, rfl, mul_ok oz, _, _, rfl, rfl, _, rfl, two_line, fun p2 np2 => mk (sm_upd np _) ?_ p2 np2⟩⟩
      rw [show twoV .rest v z = ckV (v - z * v.fdiv z) from if_neg q]
      exact pairOf_ck _
  | less =>
    refine st_f (by decide +kernel) ⟨_, rfl, rfl, _, rfl, st_f (by decide +kernel) ⟨_, rfl, rfl, _, rfl, st_f (by decide +kernel) ⟨_, rfl, two_line, fun p np => ?_⟩⟩⟩
    refine ⟨p, _, rfl, .inl (SqL.of upd_same), rfl, rfl, _, rfl, if_f (by decide +kernel) ⟨_, rfl, rfl, _, rfl, ?_⟩⟩
    refine st_t (by decide +kernel) ⟨_, rfl, _, rfl, _, _, rfl, rfl, .inr ⟨_, rfl, two_line, fun p2 np2 => mk (sm_upd np _) ?_ p2 np2⟩⟩
    rw [b2_if]
    exact ⟨_, rfl⟩
  | atmost =>
    refine st_f (by decide +kernel) ⟨_, rfl, rfl, _, rfl, st_f (by decide +kernel) ⟨_, rfl, rfl, _, rfl, st_f (by decide +kernel) ⟨_, rfl, two_line, fun p np => ?_⟩⟩⟩
    refine ⟨p, _, rfl, .inl (SqL.of upd_same), rfl, rfl, _, rfl, if_f (by decide +kernel) ⟨_, rfl, rfl, _, rfl, ?_⟩⟩
    refine st_f (by decide +kernel) ⟨_, rfl, rfl, _, rfl, st_t (by decide +kernel) ⟨_, rfl, _, rfl, _, _, rfl, rfl, .inr ⟨_, rfl, two_line, fun p2 np2 => mk (sm_upd np _) ?_ p2 np2⟩⟩⟩
    rw [b2_if]
    exact ⟨_, rfl⟩
  | same =>
    refine st_f (by decide +kernel) ⟨_, rfl, rfl, _, rfl, st_f (by decide +kernel) ⟨_, rfl, rfl, _, rfl, st_f (by decide +kernel) ⟨_, rfl, two_line, fun p np => ?_⟩⟩⟩
    refine ⟨p, _, rfl, .inl (SqL.of upd_same), rfl, rfl, _, rfl, if_f (by decide +kernel) ⟨_, rfl, rfl, _, rfl, ?_⟩⟩
    refine st_f (by decide +kernel) ⟨_, rfl, rfl, _, rfl, st_f (by decide +kernel) ⟨_, rfl, _, rfl, rfl, .inr ⟨_, rfl, two_line, fun p2 np2 => mk (sm_upd np _) ?_ p2 np2⟩⟩⟩
    rw [dec_int, Bool.beq_eq_decide_eq, b2_if]
    exact ⟨_, rfl⟩
end
end K13
set_option Elab.async false
set_option linter.all false
set_option maxRecDepth 100000
set_option maxHeartbeats 4000000
/-! K13L2: the law's own world; _law_place, _law_read. -/
namespace K13
open PySem PySem.Spec PyProof.Rows L2
/-! ### the law's own world -/
def wK (dl ac am dr dw al : Addr) : List (Key × V) := [(Sum.inr "cells", .ref ac), (Sum.inr "locals", .ref dl), (Sum.inr "memory", .ref am), (Sum.inr "writes", .ref dw), (Sum.inr "reads", .ref dr), (Sum.inr "later", .ref al)]
section
variable {dl ac am dr dw al : Addr}
theorem kne {a b : Str} (h : (a == b) = false) : ¬ (Sum.inr a : Key) = Sum.inr b := fun e => by
  have q := Sum.inr.inj e
  rw [q] at h
  simp at h
theorem w_cells : valV (wK dl ac am dr dw al) (Sum.inr "cells") = some (.ref ac) := valV_pos rfl
theorem w_locals : valV (wK dl ac am dr dw al) (Sum.inr "locals") = some (.ref dl) := (valV_neg (kne (by decide +kernel))).trans (valV_pos rfl)
theorem w_memory : valV (wK dl ac am dr dw al) (Sum.inr "memory") = some (.ref am) := (valV_neg (kne (by decide +kernel))).trans ((valV_neg (kne (by decide +kernel))).trans (valV_pos rfl))
theorem w_writes : valV (wK dl ac am dr dw al) (Sum.inr "writes") = some (.ref dw) := (valV_neg (kne (by decide +kernel))).trans ((valV_neg (kne (by decide +kernel))).trans ((valV_neg (kne (by decide +kernel))).trans (valV_pos rfl)))
theorem w_reads : valV (wK dl ac am dr dw al) (Sum.inr "reads") = some (.ref dr) := (valV_neg (kne (by decide +kernel))).trans ((valV_neg (kne (by decide +kernel))).trans ((valV_neg (kne (by decide +kernel))).trans ((valV_neg (kne (by decide +kernel))).trans (valV_pos rfl))))
theorem w_later : valV (wK dl ac am dr dw al) (Sum.inr "later") = some (.ref al) := (valV_neg (kne (by decide +kernel))).trans ((valV_neg (kne (by decide +kernel))).trans ((valV_neg (kne (by decide +kernel))).trans ((valV_neg (kne (by decide +kernel))).trans ((valV_neg (kne (by decide +kernel))).trans (valV_pos rfl)))))
theorem d_get {H : Hp} {a : Addr} {kvs : List (Key × V)} {k : Key} {v : V} (h : H a = some (.dK kvs)) (e : valV kvs k = some v) : DGet H a (kV k) (some v) := by
  have q := DGet.k (k := k) h
  rw [e] at q
  exact q
end
/-- the law's world at work -/
structure WAt (F : Fx) (A : Ad) (H : Hp) (st : Stt) : Prop where
  same : Same F.G H
  good : Good st
  at_ : H F.self = some (.dK (wK A.dl F.ac F.am F.dr A.dw A.al)) ∧ H A.dl = some (.dK (locK st.x st.y)) ∧ H F.dr = some (.dK (kvI st.reads)) ∧ H A.dw = some (.dK (kvI st.writes)) ∧ H A.al = some (.lst (st.later.map V.int)) ∧
    F.G A.dl = none ∧ F.G A.dw = none ∧ F.G A.al = none ∧ A.dl ≠ F.dr ∧ A.dl ≠ A.dw ∧ F.dr ≠ A.dw ∧ F.self ≠ F.dr ∧ F.self ≠ A.dl ∧ F.self ≠ A.dw
theorem WAt.keep {F : Fx} {A : Ad} {H H' : Hp} {st : Stt} (R : WAt F A H st) (s : Same H H') : WAt F A H' st := by
  obtain ⟨h1, h2, h3, h4, h5, r⟩ := R.at_
  exact ⟨R.same.trans s, R.good, s _ _ h1, s _ _ h2, s _ _ h3, s _ _ h4, s _ _ h5, r⟩
/-- a value comes as a pair; None with a reason -/
def WP (F : Fx) (A : Ad) (Q : VK) : Rs → Prop
  | .ok z st => ∀ H' p s, WAt F A H' st → H' p = some (.tup [.int z, .str s]) → Q (.ref p) H'
  | .er r st => ∀ H' p, WAt F A H' st → H' p = some (.tup [.non, .str (wdS r)]) → Q (.ref p) H'
section
variable {P : Program} {w : World} {K : PySem.W.Frag} {mg : Str → Option Value} {base : Heap}
/-! ### place -/
def plO (c : Nm) (i : Int) : V := if 0 ≤ i ∧ i < sizeOf c then .int (firstOf c + i) else .non
def spLPlace (K : PySem.W.Frag) : Sp := fun vs H Q _ => ∃ (a : Addr) (c : Nm) (i : Int), vs = [.ref a, .str (nmS c), .int i] ∧ CellsAt H a ∧ Q (plO c i) H
abbrev nLP : List Str := ["_law_cells_here", "_law_name", "_law_index_here", "_law_first", "_law_known", "_law_size", "_law_value_here"]
theorem scLPlace : FnScope nLP ["_law_cells_here", "_law_name", "_law_index_here"] (defScope sPlace) := ⟨rfl, rfl, rfl, by decide +kernel, rfl, by decide +kernel, by decide +kernel⟩
theorem cell_item {H : Hp} {t1 t2 t3 : Addr} (h1 : H t1 = some (.tup [.str "a", .int 2, .int 3])) (h2 : H t2 = some (.tup [.str "b", .int 1, .int 0])) (h3 : H t3 = some (.tup [.str "c", .int 3, .int (-1)])) {j : Nat} {y : V} (hj : ([.ref t1, .ref t2, .ref t3] : List V)[j]? = some y) :
    ∃ (t : Addr) (d : Nm) (z : Int), y = .ref t ∧ H t = some (.tup [.str (nmS d), .int (sizeOf d), .int z]) ∧ j = ixOf d ∧ offs j = firstOf d ∧ offs (j + 1) = firstOf d + sizeOf d := by
  match j, hj with
  | 0, hj =>
    cases Option.some.inj hj
    exact ⟨t1, .a, _, rfl, h1, rfl, rfl, rfl⟩
  | 1, hj =>
    cases Option.some.inj hj
    exact ⟨t2, .b, _, rfl, h2, rfl, rfl, rfl⟩
  | 2, hj =>
    cases Option.some.inj hj
    exact ⟨t3, .c, _, rfl, h3, rfl, rfl, rfl⟩
  | j + 3, hj => simp at hj
theorem nm_ne {c d : Nm} (h : d ≠ c) : (nmS d == nmS c) = false := by
  cases c <;> cases d <;> first | exact absurd rfl h | decide +kernel
theorem ok_lPlace (T : Txt K mg) : Pr P w K mg base CX0 1 (He.ga K "_law_place") ["_law_cells_here", "_law_name", "_law_index_here"] (spLPlace K) := by
  refine T.f_law_place.pr scLPlace (fun _ _ _ _ _ _ us hl => match us, hl with | [_, _, _], _ => rfl) (fun vs H Q E h => ?_) (fun cdv A outer s H vs Q E hr h => ?_)
  · obtain ⟨a, c, i, rfl, _⟩ := h
    rfl
  obtain ⟨a, c, i, rfl, ⟨t1, t2, t3, hc, h1, h2, h3⟩, k⟩ := h
  refine ⟨_, pss_cons (ps_set (i := 3) scLPlace.nd rfl (Or.inl rfl) pe_int)
    (pss_cons (ps_for PassesOwn.never rfl (pi_list (pv 0)) (pg_tup rfl (pgs_cons (pg_name (i := 4) scLPlace.nd rfl (Or.inl rfl)) (pgs_cons (pg_name (i := 5) scLPlace.nd rfl (Or.inl rfl)) (pgs_cons (pg_name (i := 6) scLPlace.nd rfl (Or.inl rfl)) pgs_nil))))
      (pss_cons (ps_if (PW.pt (pw_and (pt_cmpR op_eq (pv 4) (pv 1) (nomark _)) (pw_and1 (pt_chain op_le op_lt pe_int (pv 2) (pv 5))))) (pss_one (ps_ret (pe_op op_add (pv 3) (pv 2)))) pss_nil)
      (pss_one (ps_set (i := 3) scLPlace.nd rfl (Or.inl rfl) (pe_op op_add (pv 3) (pv 5))))))
    (pss_one (ps_ret pe_non))), ?_⟩
  refine ⟨_, rfl, a, rfl, ⟨_, SqL.of hc⟩, for_list (K := K) (a := a) (xs := [.ref t1, .ref t2, .ref t3]) (fun j σ H' => H' = H ∧ (j ≤ ixOf c ∨ ¬ (0 ≤ i ∧ i < sizeOf c)) ∧ ∃ v4 v5 v6, σ = [some (.ref a), some (.str (nmS c)), some (.int i), some (.int (offs j)), v4, v5, v6])
    ⟨rfl, .inl (Nat.zero_le _), none, none, none, rfl⟩ (fun j σ H' _ e => by rw [e.1]; exact SqL.of hc) ?_ ?_⟩
  · rintro j y σ H' hj ⟨rfl, hle, v4, v5, v6, rfl⟩
    obtain ⟨t, d, z, rfl, ht, ej, f1, f2⟩ := cell_item h1 h2 h3 hj
    refine ⟨t, _, rfl, SqT.of ht, rfl, _, _, rfl, _, _, rfl, _, _, rfl, rfl, ?_⟩
    refine ⟨_, rfl, _, rfl, rfl, _, rfl, ?_⟩
    have go : ∀ {A : Prop}, (j + 1 ≤ ixOf c ∨ ¬ (0 ≤ i ∧ i < sizeOf c)) → ((H' = H' ∧ (j + 1 ≤ ixOf c ∨ ¬ (0 ≤ i ∧ i < sizeOf c)) ∧ ∃ v4 v5 v6, ([some (.ref a), some (.str (nmS c)), some (.int i), some (.int (offs j + sizeOf d)), some (.str (nmS d)), some (.int (sizeOf d)), some (.int z)] : L2.St) = [some (.ref a), some (.str (nmS c)), some (.int i), some (.int (offs (j + 1))), v4, v5, v6]) → A) → A := fun q r =>
      r ⟨rfl, q, _, _, _, by rw [f2, f1]⟩
    by_cases e : d = c
    · subst e
      refine st_t (beq_self_eq_true _) ⟨_, rfl, _, _, rfl, rfl, _, rfl, ?_⟩
      by_cases c1 : 0 ≤ i
      · refine if_t (decide_eq_true c1) ⟨_, rfl, _, _, rfl, rfl, _, rfl, ?_⟩
        by_cases c2 : i < sizeOf d
        · refine if_t (decide_eq_true c2) ⟨_, rfl, _, rfl, _, _, rfl, rfl, ?_⟩
          unfold plO at k
          rw [if_pos ⟨c1, c2⟩] at k
          rw [f1]
          exact k
        · refine if_f (decide_eq_false c2) ⟨_, rfl, _, rfl, _, _, rfl, rfl, go (.inr fun q => c2 q.2) id⟩
      · refine if_f (decide_eq_false c1) ⟨_, rfl, if_f rfl ⟨_, rfl, _, rfl, _, _, rfl, rfl, go (.inr fun q => c1 q.1) id⟩⟩
    · refine st_f (nm_ne e) (if_f rfl ⟨_, rfl, _, rfl, _, _, rfl, rfl, go ?_ id⟩)
      rcases hle with q | q
      · refine .inl (Nat.lt_of_le_of_ne q fun z => e ?_)
        rw [ej] at z
        cases d <;> cases c <;> first | rfl | cases z
      · exact .inr q
  · rintro σ H' ⟨rfl, hle, v4, v5, v6, rfl⟩
    have q : ¬ (0 ≤ i ∧ i < sizeOf c) := by
      rcases hle with q | q
      · exact absurd q (show ¬ 3 ≤ ixOf c by cases c <;> decide)
      · exact q
    unfold plO at k
    rw [if_neg q] at k
    exact k
/-! ### read -/
def spLRead : Sp := fun vs H Q _ => ∃ (F : Fx) (A : Ad) (st : Stt) (c : Int), vs = [.ref F.self, .int c] ∧ FxOk F ∧ WAt F A H st ∧ 0 ≤ c ∧ c < 6 ∧ ∀ z s1 H', rdC F.mem c st = .ok z s1 → Ok1 z → WAt F A H' s1 → Q (.int z) H'
theorem scLRead : FnScope ["_law_world", "_law_number_here"] ["_law_world", "_law_number_here"] (defScope sLRead) := ⟨rfl, rfl, rfl, by decide +kernel, rfl, by decide +kernel, by decide +kernel⟩
theorem lookI_ok {l : List (Int × Int)} (c : Cl l) {k z : Int} (h : lookI l k = some z) : Ok1 z := by
  unfold lookI at h
  cases e : l.find? fun p => decide (p.1 = k) with
  | none => rw [e] at h; cases h
  | some p =>
    rw [e] at h
    cases h
    exact c.vs p (List.mem_of_find?_eq_some e)
theorem ok_lRead (T : Txt K mg) : Pr P w K mg base CX0 1 (He.ga K "_law_read") ["_law_world", "_law_number_here"] spLRead := by
  refine T.f_law_read.pr scLRead (fun _ _ _ _ _ _ us hl => match us, hl with | [_, _], _ => rfl) (fun vs H Q E h => ?_) (fun cdv A outer s H vs Q E hr h => ?_)
  · obtain ⟨F, A1, st, c, rfl, _⟩ := h
    rfl
  obtain ⟨F, ⟨dl, dw, al⟩, st, c, rfl, fo, R, k0, k6, h⟩ := h
  have hu := hu_of hr
  refine ⟨_, pss_cons (ps_if (pt_cmp (pc_din hu (pv 1) (pe_dget hu (pv 0) pe_str (fun _ _ => rfl)))) (pss_one (ps_ret (pe_dget hu (pe_dget hu (pv 0) pe_str (fun _ _ => rfl)) (pv 1) (fun _ _ => rfl)))) pss_nil)
    (pss_cons (ps_dput hu (pe_dget hu (pv 0) pe_str (fun _ _ => rfl)) (pv 1) (pe_ix ix_list (pe_dget hu (pv 0) pe_str (fun _ _ => rfl)) (pv 1) (fun _ _ => rfl)) rfl)
    (pss_one (ps_ret (pe_ix ix_list (pe_dget hu (pv 0) pe_str (fun _ _ => rfl)) (pv 1) (fun _ _ => rfl))))), ?_⟩
  obtain ⟨h1, h2, h3, h4, h5, g1, g2, g3, n1, n2, n3, n4, n5, n6⟩ := R.at_
  dsimp only at h1 h2 h3 h4 h5 g1 g2 g3 n1 n2 n3 n4 n5 n6
  have m1 := mem_at fo.mok k0 k6
  refine ⟨_, rfl, _, rfl, F.self, _, rfl, d_get h1 w_writes, dw, _, rfl, DGet.k (k := Sum.inl c) h4, _, rfl, ?_⟩
  unfold rdC at h
  rw [valV_kv]
  cases e : lookI st.writes c with
  | some z =>
    rw [e] at h
    refine if_t rfl ?_
    refine ⟨_, rfl, F.self, _, rfl, d_get h1 w_writes, _, rfl, dw, .int z, rfl, ?_, h _ _ _ rfl (lookI_ok R.good.w e) R⟩
    have q := DGet.k (k := (Sum.inl c : Key)) h4
    rw [valV_kv, e] at q
    exact q
  | none =>
    rw [e] at h
    refine if_f rfl ?_
    refine ⟨_, rfl, F.self, _, rfl, d_get h1 w_memory, _, rfl, F.am, _, _, _, rfl, rfl, SqL.of (R.same _ _ fo.memo), m1, ?_⟩
    refine ⟨_, rfl, F.self, _, rfl, d_get h1 w_reads, _, rfl, F.dr, _, rfl, DPut.k (k := Sum.inl c) h3 (kvI_line R.good.r), ?_⟩
    have nl : al ≠ F.dr := ne_of h5 h3 (by intro z; cases z)
    have s2 : Same F.G (upd H F.dr (.dK (putK (kvI st.reads) (Sum.inl c) (.int (F.mem.getD c.toNat 0))))) := sm_put R.same fo.gr _
    refine ⟨_, rfl, F.self, _, rfl, d_get (by rw [upd_ne n4]; exact h1) w_memory, _, rfl, F.am, _, _, _, rfl, rfl, SqL.of (s2 _ _ fo.memo), m1, ?_⟩
    refine h _ _ _ rfl (getD_ok fo.mok _ (by omega)) ⟨s2, ⟨R.good.x, R.good.y, R.good.r.put k0 k6 (getD_ok fo.mok _ (by omega)), R.good.w⟩, ?_, ?_, ?_, ?_, ?_, g1, g2, g3, n1, n2, n3, n4, n5, n6⟩
    · rw [upd_ne n4]; exact h1
    · rw [upd_ne n1]; exact h2
    · rw [putK_kv]; exact upd_same
    · rw [upd_ne (Ne.symm n3)]; exact h4
    · rw [upd_ne nl]; exact h5
end
end K13
set_option Elab.async false
set_option linter.all false
set_option maxRecDepth 100000
set_option maxHeartbeats 4000000
/-! K13L3: the law's own _law_value (printed by gen_l3.py). -/
namespace K13
open PySem PySem.Spec PyProof.Rows L2
theorem wp_pair {F : Fx} {A : Ad} {Q : VK} {e : Except Wd Int} {st : Stt} {H : Hp} {p : Addr} {l : List V} (h : WP F A Q (liftS st e)) (R : WAt F A H st) (hp : H p = some (.tup l)) (pr : PairOf e l) : Q (.ref p) H := by
  cases e with
  | ok z =>
    obtain ⟨s, rfl⟩ := pr
    exact h H p s R hp
  | error r =>
    have pr : l = [.non, .str (wdS r)] := pr
    subst pr
    exact h H p R hp
/-- behind a first part -/
theorem WP.step {F : Fx} {A : Ad} {a : Rs} {st : Stt} {Q Q' : VK} {f : Int → Stt → Rs} (g : RGood st a) (h : WP F A Q (a.bd f))
    (k : ∀ v s1 H' p s, Ok1 v → WAt F A H' s1 → H' p = some (.tup [.int v, .str s]) → WP F A Q (f v s1) → Q' (.ref p) H')
    (z : ∀ r H' p, H' p = some (.tup [.non, .str (wdS r)]) → (∀ H2 q, Same H' H2 → H2 q = some (.tup [.non, .str (wdS r)]) → Q (.ref q) H2) → Q' (.ref p) H') : WP F A Q' a := by
  cases a with
  | er r s1 => exact fun H' p R hp => z r H' p hp fun H2 q s2 hq => h H2 q (R.keep s2) hq
  | ok v s1 => exact fun H' p s R hp => k v s1 H' p s g.1 R hp h
theorem iN {A B : Prop} {z : Int} (b : B) : if decide (V.int z = V.non) = true then A else B := if_f (decide_eq_false (by intro e; cases e)) b
theorem iY {A B : Prop} (a : A) : if decide (V.non = V.non) = true then A else B := if_t (decide_eq_true rfl) a
section
variable {P : Program} {w : World} {K : PySem.W.Frag} {mg : Str → Option Value} {base : Heap}
def spLValue (n : Nat) : Sp := fun vs H Q _ => ∃ (F : Fx) (A : Ad) (st : Stt) (e : Ex) (v : V), vs = [.ref F.self, v] ∧ FxOk F ∧ WAt F A H st ∧ ExAt F.G e v ∧ exD e < n ∧ WP F A Q (evE F.mem e st)
theorem scLValue : FnScope ["_law_world", "_law_exp_here", "_law_kind", "_law_first", "_law_reason", "_law_number_here", "_law_second"] ["_law_world", "_law_exp_here"] (defScope sLValue) := ⟨rfl, rfl, rfl, by decide +kernel, rfl, by decide +kernel, by decide +kernel⟩
theorem ok_lValue_step (T : Txt K mg) {n : Nat} (IH : Pr P w K mg base CX0 (n + 2) (He.ga K "_law_value") ["_law_world", "_law_exp_here"] (spLValue n)) :
    Pr P w K mg base CX0 (n + 3) (He.ga K "_law_value") ["_law_world", "_law_exp_here"] (spLValue (n + 1)) := by
  refine T.f_law_value.pr scLValue (fun _ _ _ _ _ _ us hl => match us, hl with | [_, _], _ => rfl) (fun vs H Q E h => ?_) (fun cdv A outer s H vs Q E hr h => ?_)
  · obtain ⟨F, A1, st, e, v, rfl, _⟩ := h
    rfl
  obtain ⟨F, A1, st, e, v, rfl, fo, R, hv, hd, h⟩ := h
  have hu := hu_of hr
  refine ⟨_, (pss_cons (ps_set (i := 2) scLValue.nd rfl (Or.inl rfl) (pe_ix ix_tup (pv 1) pe_int (fun _ _ => rfl)))
      (pss_cons (ps_if (pt_cmpR op_eq (pv 2) pe_str (nomark _)) (pss_one (ps_ret (pe_tup (pa_cons (pe_callP (ok_inRange T) (hr.mono (by omega)) rfl (T.glo _ (by decide +kernel)) pass0 (pa_cons (pe_ix ix_tup (pv 1) pe_int (fun _ _ => rfl)) pa_nil)) (pa_cons (pe_str) pa_nil))))) pss_nil)
      (pss_cons (ps_if (pt_cmpR op_eq (pv 2) pe_str (nomark _)) (pss_one (ps_ret (pe_tup (pa_cons (pe_dget hu (pe_dget hu (pv 0) pe_str (fun _ _ => rfl)) (pe_ix ix_tup (pv 1) pe_int (fun _ _ => rfl)) (fun _ _ => rfl)) (pa_cons (pe_str) pa_nil))))) pss_nil)
      (pss_cons (ps_asg (pe_callP (IH) hr rfl (T.glo _ (by decide +kernel)) pass0 (pa_cons (pv 0) (pa_cons (pe_ifExp (pt_cmpR op_eq (pv 2) pe_str (nomark _)) (pe_ix ix_tup (pv 1) pe_int (fun _ _ => rfl)) (pe_ix ix_tup (pv 1) pe_int (fun _ _ => rfl))) pa_nil))) (pg_tup rfl (pgs_cons (pg_name (i := 3) scLValue.nd rfl (Or.inl rfl)) (pgs_cons (pg_name (i := 4) scLValue.nd rfl (Or.inl rfl)) pgs_nil))))
      (pss_cons (ps_if (pt_cmp (pc_isN (pv 3))) (pss_one (ps_ret (pe_tup (pa_cons (pe_non) (pa_cons (pv 4) pa_nil))))) pss_nil)
      (pss_cons (ps_if (pt_cmpR op_eq (pv 2) pe_str (nomark _)) (pss_cons (ps_set (i := 5) scLValue.nd rfl (Or.inl rfl) (pe_callP (ok_lPlace T) (hr.mono (by omega)) rfl (T.glo _ (by decide +kernel)) pass0 (pa_cons (pe_dget hu (pv 0) pe_str (fun _ _ => rfl)) (pa_cons (pe_ix ix_tup (pv 1) pe_int (fun _ _ => rfl)) (pa_cons (pv 3) pa_nil)))))
      (pss_cons (ps_if (pt_cmp (pc_isN (pv 5))) (pss_one (ps_ret (pe_tup (pa_cons (pe_non) (pa_cons (pe_str) pa_nil))))) pss_nil)
      (pss_one (ps_ret (pe_tup (pa_cons (pe_callP (ok_lRead T) (hr.mono (by omega)) rfl (T.glo _ (by decide +kernel)) pass0 (pa_cons (pv 0) (pa_cons (pv 5) pa_nil))) (pa_cons (pe_str) pa_nil))))))) pss_nil)
      (pss_cons (ps_if (pt_cmpR op_eq (pv 2) pe_str (nomark _)) (pss_one (ps_ret (pe_tup (pa_cons (pe_un un_neg (pv 3)) (pa_cons (pe_str) pa_nil))))) pss_nil)
      (pss_cons (ps_if (pt_cmpR op_eq (pv 2) pe_str (nomark _)) (pss_one (ps_ret (pe_tup (pa_cons (pe_callTy call_int1 rfl (T.free _ (by decide +kernel)) (by decide +kernel) (pa_cons (pe_cmpR op_eq (pv 3) pe_int (nomark _)) pa_nil)) (pa_cons (pe_str) pa_nil))))) pss_nil)
      (pss_cons (ps_if (PW.pt (pw_and (pt_cmpR op_in_seq (pv 2) (pe_lst (pa_cons pe_str (pa_cons pe_str pa_nil))) rfl) (pw_and1 (pt_cmpR op_eq (pe_cmpR op_ne (pv 3) pe_int (nomark _)) (pe_cmpR op_eq (pv 2) pe_str (nomark _)) (nomark _))))) (pss_one (ps_ret (pe_tup (pa_cons (pe_callTy call_int1 rfl (T.free _ (by decide +kernel)) (by decide +kernel) (pa_cons (pe_cmpR op_eq (pv 2) pe_str (nomark _)) pa_nil)) (pa_cons (pe_str) pa_nil))))) pss_nil)
      (pss_cons (ps_asg (pe_callP (IH) hr rfl (T.glo _ (by decide +kernel)) pass0 (pa_cons (pv 0) (pa_cons (pe_ix ix_tup (pv 1) pe_int (fun _ _ => rfl)) pa_nil))) (pg_tup rfl (pgs_cons (pg_name (i := 6) scLValue.nd rfl (Or.inl rfl)) (pgs_cons (pg_name (i := 4) scLValue.nd rfl (Or.inl rfl)) pgs_nil))))
      (pss_cons (ps_if (pt_cmp (pc_isN (pv 6))) (pss_one (ps_ret (pe_tup (pa_cons (pe_non) (pa_cons (pv 4) pa_nil))))) pss_nil)
      (pss_cons (ps_if (pt_cmpR op_in_seq (pv 2) (pe_lst (pa_cons pe_str (pa_cons pe_str pa_nil))) rfl) (pss_one (ps_ret (pe_tup (pa_cons (pe_callTy call_int1 rfl (T.free _ (by decide +kernel)) (by decide +kernel) (pa_cons (pe_cmpR op_ne (pv 6) pe_int (nomark _)) pa_nil)) (pa_cons (pe_str) pa_nil))))) pss_nil)
      (pss_one (ps_ret (pe_callP (ok_lTwo T) (hr.mono (by omega)) rfl (T.glo _ (by decide +kernel)) pass0 (pa_cons (pv 2) (pa_cons (pv 3) (pa_cons (pv 6) pa_nil)))))))))))))))))), ?_⟩
  have g := evE_good fo.mok
  -- the pair None, reason goes on
  have lost : ∀ (r : Wd) (H' : Hp), (∀ H2 q, Same H' H2 → H2 q = some (.tup [.non, .str (wdS r)]) → Q (.ref q) H2) → ∀ p, H' p = none → Q (.ref p) (upd H' p (.tup [.non, .str (wdS r)])) := fun r H' k p np => k _ p (sm_upd np _) upd_same
  cases e with
  | num m =>
    obtain ⟨p, rfl, ht⟩ := hv
    have ht1 := R.same _ _ ht
    refine ⟨_, rfl, p, _, _, _, rfl, rfl, SqT.of ht1, a0, _, rfl, rfl, _, rfl, st_t (by decide +kernel) ⟨_, rfl, p, _, _, _, rfl, rfl, SqT.of ht1, a1, m, rfl, two_line, fun p2 np2 => ?_⟩⟩
    exact wp_pair h (R.keep (sm_upd np2 _)) upd_same (pairOf_ck m)
  | loc l =>
    obtain ⟨p, rfl, ht⟩ := hv
    have ht1 := R.same _ _ ht
    obtain ⟨z1, z2, _⟩ := id R.at_
    refine ⟨_, rfl, p, _, _, _, rfl, rfl, SqT.of ht1, a0, _, rfl, rfl, _, rfl, st_f (by decide +kernel) ⟨_, rfl, rfl, _, rfl, st_t (by decide +kernel) ?_⟩⟩
    exact ⟨_, rfl, F.self, _, rfl, d_get z1 w_locals, _, rfl, p, _, _, _, rfl, rfl, SqT.of ht1, a1, A1.dl, .int (locV st l), rfl, d_get z2 (locK_get st l), two_line, fun p2 np2 => h _ p2 _ (R.keep (sm_upd np2 _)) upd_same⟩
  | cell c i =>
    obtain ⟨p, u, rfl, ht, hi⟩ := hv
    have ht1 := R.same _ _ ht
    have hd : exD i + 1 < n + 1 := hd
    rw [ev_cell] at h
    refine ⟨_, rfl, p, _, _, _, rfl, rfl, SqT.of ht1, a0, _, rfl, rfl, _, rfl, st_f (by decide +kernel) ⟨_, rfl, rfl, _, rfl, st_f (by decide +kernel) ?_⟩⟩
    refine ⟨_, rfl, _, rfl, rfl, _, rfl, st_t (by decide +kernel) ⟨_, rfl, p, _, _, _, rfl, rfl, SqT.of ht1, a2, F, A1, st, i, u, rfl, fo, R, hi, by omega, WP.step (g i st R.good) h (fun v s1 H1 q s ov R1 hq h1 => ?_) fun r H1 q hq hl => ?_⟩⟩
    · refine ⟨q, _, rfl, SqT.of hq, rfl, _, _, rfl, _, _, rfl, rfl, ?_⟩
      refine ⟨_, rfl, _, rfl, iN ⟨_, rfl, rfl, _, rfl, st_t (by decide +kernel) ?_⟩⟩
      have ht1 := R1.same _ _ ht
      obtain ⟨z1, z2, _⟩ := id R1.at_
      refine ⟨_, rfl, F.self, _, rfl, d_get z1 w_cells, _, rfl, p, _, _, _, rfl, rfl, SqT.of ht1, a1, _, rfl, F.ac, c, v, rfl, fo.cells.mono R1.same, ?_⟩
      unfold rdR at h1
      by_cases hk : 0 ≤ v ∧ v < sizeOf c
      · rw [if_pos hk] at h1
        have e : plO c v = .int (firstOf c + v) := if_pos hk
        rw [e]
        obtain ⟨k0, k6⟩ := first_size c hk.1 hk.2
        refine ⟨_, rfl, _, rfl, iN ⟨_, rfl, _, rfl, F, A1, s1, _, rfl, fo, R1, k0, k6, fun z s2 H2 e2 oz R2 => ⟨two_line, fun p2 np2 => ?_⟩⟩⟩
        rw [e2] at h1
        exact h1 _ p2 _ (R2.keep (sm_upd np2 _)) upd_same
      · rw [if_neg hk] at h1
        have e : plO c v = .non := if_neg hk
        rw [e]
        exact ⟨_, rfl, _, rfl, iY ⟨two_line, fun p2 np2 => h1 _ p2 (R1.keep (sm_upd np2 _)) upd_same⟩⟩
    · refine ⟨q, _, rfl, SqT.of hq, rfl, _, _, rfl, _, _, rfl, rfl, ?_⟩
      exact ⟨_, rfl, _, rfl, iY ⟨_, rfl, two_line, lost r H1 hl⟩⟩
  | neg a =>
    obtain ⟨p, u, rfl, ht, hi⟩ := hv
    have ht1 := R.same _ _ ht
    have hd : exD a + 1 < n + 1 := hd
    rw [ev_neg] at h
    refine ⟨_, rfl, p, _, _, _, rfl, rfl, SqT.of ht1, a0, _, rfl, rfl, _, rfl, st_f (by decide +kernel) ⟨_, rfl, rfl, _, rfl, st_f (by decide +kernel) ?_⟩⟩
    refine ⟨_, rfl, _, rfl, rfl, _, rfl, st_f (by decide +kernel) ⟨_, rfl, p, _, _, _, rfl, rfl, SqT.of ht1, a1, F, A1, st, a, u, rfl, fo, R, hi, by omega, WP.step (g a st R.good) h (fun v s1 H1 q s ov R1 hq h1 => ?_) fun r H1 q hq hl => ?_⟩⟩
    · refine ⟨q, _, rfl, SqT.of hq, rfl, _, _, rfl, _, _, rfl, rfl, ?_⟩
      refine ⟨_, rfl, _, rfl, iN ⟨_, rfl, rfl, _, rfl, st_f (by decide +kernel) ⟨_, rfl, rfl, _, rfl, st_t (by decide +kernel) ⟨_, rfl, _, rfl, two_line, fun p2 np2 => ?_⟩⟩⟩⟩
      exact h1 _ p2 _ (R1.keep (sm_upd np2 _)) upd_same
    · refine ⟨q, _, rfl, SqT.of hq, rfl, _, _, rfl, _, _, rfl, rfl, ?_⟩
      exact ⟨_, rfl, _, rfl, iY ⟨_, rfl, two_line, lost r H1 hl⟩⟩
  | no a =>
    obtain ⟨p, u, rfl, ht, hi⟩ := hv
    have ht1 := R.same _ _ ht
    have hd : exD a + 1 < n + 1 := hd
    rw [ev_no] at h
    refine ⟨_, rfl, p, _, _, _, rfl, rfl, SqT.of ht1, a0, _, rfl, rfl, _, rfl, st_f (by decide +kernel) ⟨_, rfl, rfl, _, rfl, st_f (by decide +kernel) ?_⟩⟩
    refine ⟨_, rfl, _, rfl, rfl, _, rfl, st_f (by decide +kernel) ⟨_, rfl, p, _, _, _, rfl, rfl, SqT.of ht1, a1, F, A1, st, a, u, rfl, fo, R, hi, by omega, WP.step (g a st R.good) h (fun v s1 H1 q s ov R1 hq h1 => ?_) fun r H1 q hq hl => ?_⟩⟩
    · refine ⟨q, _, rfl, SqT.of hq, rfl, _, _, rfl, _, _, rfl, rfl, ?_⟩
      refine ⟨_, rfl, _, rfl, iN ⟨_, rfl, rfl, _, rfl, st_f (by decide +kernel) ⟨_, rfl, rfl, _, rfl, st_f (by decide +kernel) ⟨_, rfl, rfl, _, rfl, st_t (by decide +kernel) ⟨_, rfl, rfl, .inr ⟨_, rfl, two_line, fun p2 np2 => ?_⟩⟩⟩⟩⟩⟩
      rw [b0]
      exact h1 _ p2 _ (R1.keep (sm_upd np2 _)) upd_same
    · refine ⟨q, _, rfl, SqT.of hq, rfl, _, _, rfl, _, _, rfl, rfl, ?_⟩
      exact ⟨_, rfl, _, rfl, iY ⟨_, rfl, two_line, lost r H1 hl⟩⟩
  | bin k a b =>
    obtain ⟨p, u, u2, rfl, ht, hi, hj⟩ := hv
    have ht1 := R.same _ _ ht
    have hd : max (exD a) (exD b) + 1 < n + 1 := hd
    rw [ev_bin] at h
    have no : ∀ {A B : Prop} {t : Str}, t ∈ (["number", "local", "cell", "negative", "not"] : List Str) → B → if decide (V.str (bkS k) = V.str t) = true then A else B := fun {A B t} q z => st_f (by
      have z : ((["number", "local", "cell", "negative", "not"] : List Str).all fun s => !(bkS k == s)) = true := by cases k <;> decide +kernel
      have q := List.all_eq_true.mp z t q
      simpa using q) z
    refine ⟨_, rfl, p, _, _, _, rfl, rfl, SqT.of ht1, a0, _, rfl, rfl, _, rfl, no (by decide +kernel) ⟨_, rfl, rfl, _, rfl, no (by decide +kernel) ?_⟩⟩
    refine ⟨_, rfl, _, rfl, rfl, _, rfl, no (by decide +kernel) ⟨_, rfl, p, _, _, _, rfl, rfl, SqT.of ht1, a1, F, A1, st, a, u, rfl, fo, R, hi, by omega, WP.step (g a st R.good) h (fun v s1 H1 q s ov R1 hq h1 => ?_) fun r H1 q hq hl => ?_⟩⟩
    · refine ⟨q, _, rfl, SqT.of hq, rfl, _, _, rfl, _, _, rfl, rfl, ?_⟩
      refine ⟨_, rfl, _, rfl, iN ⟨_, rfl, rfl, _, rfl, no (by decide +kernel) ⟨_, rfl, rfl, _, rfl, no (by decide +kernel) ⟨_, rfl, rfl, _, rfl, no (by decide +kernel) ⟨_, rfl, two_line, fun c nc => ⟨c, _, rfl, .inl (SqL.of upd_same), rfl, rfl, _, rfl, ?_⟩⟩⟩⟩⟩⟩
      have R2 := R1.keep (sm_upd nc (.lst [.str "and", .str "or"]))
      have ht1 := R2.same _ _ ht
      by_cases har : isAr k = true
      · refine if_f (by cases k <;> first | (cases har; done) | decide +kernel) (if_f rfl ?_)
        rw [binB_ar har] at h1
        refine ⟨_, rfl, _, rfl, p, _, _, _, rfl, rfl, SqT.of ht1, a2, F, A1, s1, b, u2, rfl, fo, R2, hj, by omega, WP.step (g b s1 R2.good) h1 (fun z s2 H2 q2 s' oz R3 hq2 h2 => ?_) fun r H2 q2 hq2 hl => ?_⟩
        · refine ⟨q2, _, rfl, SqT.of hq2, rfl, _, _, rfl, _, _, rfl, rfl, ?_⟩
          refine ⟨_, rfl, _, rfl, iN ⟨_, rfl, two_line, fun c2 nc2 => ⟨c2, _, rfl, .inl (SqL.of upd_same), rfl, rfl, _, rfl, ?_⟩⟩⟩
          refine if_f (by cases k <;> first | (cases har; done) | decide +kernel) ?_
          exact ⟨_, rfl, _, rfl, _, rfl, k, v, z, rfl, har, ov, oz, fun p2 H3 l s3 n3 e3 pr => wp_pair h2 (R3.keep ((sm_upd nc2 _).trans s3)) e3 pr⟩
        · refine ⟨q2, _, rfl, SqT.of hq2, rfl, _, _, rfl, _, _, rfl, rfl, ?_⟩
          exact ⟨_, rfl, _, rfl, iY ⟨_, rfl, two_line, lost r H2 hl⟩⟩
      · have kk : k = .and ∨ k = .or := by cases k <;> first | exact .inl rfl | exact .inr rfl | exact absurd rfl har
        rcases kk with rfl | rfl
        · refine if_t (by decide +kernel) ⟨_, rfl, rfl, _, rfl, rfl, rfl, _, rfl, ?_⟩
          by_cases q0 : v = 0
          · have e : binB .and v (evE F.mem b) s1 = .ok 0 s1 := if_pos q0
            rw [e] at h1
            refine if_t (by rw [q0]; decide +kernel) ⟨_, rfl, rfl, .inr ⟨_, rfl, two_line, fun p2 np2 => ?_⟩⟩
            exact h1 _ p2 _ (R2.keep (sm_upd np2 _)) (by rw [upd_same]; rfl)
          · have e : binB .and v (evE F.mem b) s1 = tf (evE F.mem b s1) := if_neg q0
            rw [e, tf_bd] at h1
            refine if_f (by rw [show decide (V.int v = V.int 0) = false from decide_eq_false fun z => q0 (V.int.inj z)]; decide +kernel) ?_
            refine ⟨_, rfl, _, rfl, p, _, _, _, rfl, rfl, SqT.of ht1, a2, F, A1, s1, b, u2, rfl, fo, R2, hj, by omega, WP.step (g b s1 R2.good) h1 (fun z s2 H2 q2 s' oz R3 hq2 h2 => ?_) fun r H2 q2 hq2 hl => ?_⟩
            · refine ⟨q2, _, rfl, SqT.of hq2, rfl, _, _, rfl, _, _, rfl, rfl, ?_⟩
              refine ⟨_, rfl, _, rfl, iN ⟨_, rfl, two_line, fun c2 nc2 => ⟨c2, _, rfl, .inl (SqL.of upd_same), rfl, rfl, _, rfl, ?_⟩⟩⟩
              refine if_t (by decide +kernel) ⟨_, rfl, rfl, .inr ⟨_, rfl, two_line, fun p2 np2 => ?_⟩⟩
              rw [b1]
              exact h2 _ p2 _ (R3.keep ((sm_upd nc2 _).trans (sm_upd np2 _))) upd_same
            · refine ⟨q2, _, rfl, SqT.of hq2, rfl, _, _, rfl, _, _, rfl, rfl, ?_⟩
              exact ⟨_, rfl, _, rfl, iY ⟨_, rfl, two_line, lost r H2 hl⟩⟩
        · refine if_t (by decide +kernel) ⟨_, rfl, rfl, _, rfl, rfl, rfl, _, rfl, ?_⟩
          by_cases q0 : v = 0
          · have e : binB .or v (evE F.mem b) s1 = tf (evE F.mem b s1) := if_pos q0
            rw [e, tf_bd] at h1
            refine if_f (by rw [q0]; decide +kernel) ?_
            refine ⟨_, rfl, _, rfl, p, _, _, _, rfl, rfl, SqT.of ht1, a2, F, A1, s1, b, u2, rfl, fo, R2, hj, by omega, WP.step (g b s1 R2.good) h1 (fun z s2 H2 q2 s' oz R3 hq2 h2 => ?_) fun r H2 q2 hq2 hl => ?_⟩
            · refine ⟨q2, _, rfl, SqT.of hq2, rfl, _, _, rfl, _, _, rfl, rfl, ?_⟩
              refine ⟨_, rfl, _, rfl, iN ⟨_, rfl, two_line, fun c2 nc2 => ⟨c2, _, rfl, .inl (SqL.of upd_same), rfl, rfl, _, rfl, ?_⟩⟩⟩
              refine if_t (by decide +kernel) ⟨_, rfl, rfl, .inr ⟨_, rfl, two_line, fun p2 np2 => ?_⟩⟩
              rw [b1]
              exact h2 _ p2 _ (R3.keep ((sm_upd nc2 _).trans (sm_upd np2 _))) upd_same
            · refine ⟨q2, _, rfl, SqT.of hq2, rfl, _, _, rfl, _, _, rfl, rfl, ?_⟩
              exact ⟨_, rfl, _, rfl, iY ⟨_, rfl, two_line, lost r H2 hl⟩⟩
          · have e : binB .or v (evE F.mem b) s1 = .ok 1 s1 := if_neg q0
            rw [e] at h1
            refine if_t (by rw [show decide (V.int v = V.int 0) = false from decide_eq_false fun z => q0 (V.int.inj z)]; decide +kernel) ⟨_, rfl, rfl, .inr ⟨_, rfl, two_line, fun p2 np2 => ?_⟩⟩
            exact h1 _ p2 _ (R2.keep (sm_upd np2 _)) (by rw [upd_same]; rfl)
    · refine ⟨q, _, rfl, SqT.of hq, rfl, _, _, rfl, _, _, rfl, rfl, ?_⟩
      exact ⟨_, rfl, _, rfl, iY ⟨_, rfl, two_line, lost r H1 hl⟩⟩
theorem none2 {x qual : Str} {st : Stmt} {f : Addr} {ps : List Str} (F : FnP K x qual st f)
    (h : ∀ (kV doc pm : Value) (an : Option Addr) (cdv ct : Value) (us : List Value), us.length = ps.length → bindArgs (PySem.W.fnOf x qual (defArgs st) (defBody st) (defScope st) .none kV doc pm an cdv ct) ⟨us, []⟩ = pure (ps.zip us)) {CX : CXT} {k : Nat} {sp : Sp} (no : ∀ vs H Q E, ¬ sp vs H Q E) : Pr P w K mg base CX k f ps sp := by
  obtain ⟨fd, F, b⟩ := F.binds h
  exact ⟨⟨fd, ⟨fun vs H Q E h => absurd h (no vs H Q E), fun A outer s H args us vs Q E _ _ _ _ h => absurd h (no vs H Q E)⟩, b⟩, F.kp⟩
/-- _law_value, for expressions of a depth below n -/
theorem ok_lValue (T : Txt K mg) : ∀ n : Nat, Pr P w K mg base CX0 (n + 2) (He.ga K "_law_value") ["_law_world", "_law_exp_here"] (spLValue n)
  | 0 => none2 T.f_law_value (fun _ _ _ _ _ _ us hl => match us, hl with | [_, _], _ => rfl) fun _ _ _ _ ⟨_, _, _, _, _, _, _, _, _, z, _⟩ => absurd z (Nat.not_lt_zero _)
  | n + 1 => ok_lValue_step T (ok_lValue T n)
end
end K13
set_option Elab.async false
set_option linter.all false
set_option maxRecDepth 100000
set_option maxHeartbeats 4000000
/-! K13L4: the law's own statements (printed by gen_l4.py). -/
namespace K13
open PySem PySem.Spec PyProof.Rows L2
section
variable {dl ac am dr dw al d : Addr}
theorem w_put_locals : putK (wK dl ac am dr dw al) (Sum.inr "locals" : Key) (.ref d) = wK d ac am dr dw al := by
  unfold putK
  rw [valV_any, w_locals, if_pos (show (some (V.ref dl)).isSome = true from rfl)]
  simp only [wK, List.map, if_neg (kne (a := "cells") (b := "locals") (by decide +kernel)), if_neg (kne (a := "memory") (b := "locals") (by decide +kernel)), if_neg (kne (a := "writes") (b := "locals") (by decide +kernel)), if_neg (kne (a := "reads") (b := "locals") (by decide +kernel)), if_neg (kne (a := "later") (b := "locals") (by decide +kernel)), if_true]
theorem w_put_writes : putK (wK dl ac am dr dw al) (Sum.inr "writes" : Key) (.ref d) = wK dl ac am dr d al := by
  unfold putK
  rw [valV_any, w_writes, if_pos (show (some (V.ref dw)).isSome = true from rfl)]
  simp only [wK, List.map, if_neg (kne (a := "cells") (b := "writes") (by decide +kernel)), if_neg (kne (a := "memory") (b := "writes") (by decide +kernel)), if_neg (kne (a := "locals") (b := "writes") (by decide +kernel)), if_neg (kne (a := "reads") (b := "writes") (by decide +kernel)), if_neg (kne (a := "later") (b := "writes") (by decide +kernel)), if_true]
theorem w_put_later : putK (wK dl ac am dr dw al) (Sum.inr "later" : Key) (.ref d) = wK dl ac am dr dw d := by
  unfold putK
  rw [valV_any, w_later, if_pos (show (some (V.ref al)).isSome = true from rfl)]
  simp only [wK, List.map, if_neg (kne (a := "cells") (b := "later") (by decide +kernel)), if_neg (kne (a := "memory") (b := "later") (by decide +kernel)), if_neg (kne (a := "locals") (b := "later") (by decide +kernel)), if_neg (kne (a := "reads") (b := "later") (by decide +kernel)), if_neg (kne (a := "writes") (b := "later") (by decide +kernel)), if_true]
end
def ocV : Oc → List V
  | .done => [.str "done", .non] | .retry => [.str "retry", .non] | .undo => [.str "undo", .non] | .fault r => [.str "fault", .str (wdS r)]
def ocD : Oc → List PyData
  | .done => [.str "done", .none] | .retry => [.str "retry", .none] | .undo => [.str "undo", .none] | .fault r => [.str "fault", .str (wdS r)]
theorem dpO (K : PySem.W.Frag) (H : Hp) : ∀ o : Oc, DpAll K H (ocV o) (ocD o)
  | .done => .cons (.str _) (.cons .non .nil)
  | .retry => .cons (.str _) (.cons .non .nil)
  | .undo => .cons (.str _) (.cons .non .nil)
  | .fault _ => .cons (.str _) (.cons (.str _) .nil)
theorem shO : ∀ o : Oc, SeqAt.shaped (.tuple (ocD o)) = true
  | .done => by decide +kernel
  | .retry => by decide +kernel
  | .undo => by decide +kernel
  | .fault .range => by decide +kernel
  | .fault .zero => by decide +kernel
  | .fault .index => by decide +kernel
  | .fault .count => by decide +kernel
theorem eqO : ∀ o : Oc, o ≠ .done → PyData.eqv (.tuple (ocD o)) (.tuple (ocD .done)) = false
  | .done, h => absurd rfl h
  | .retry, _ => by decide +kernel
  | .undo, _ => by decide +kernel
  | .fault .range, _ => by decide +kernel
  | .fault .zero, _ => by decide +kernel
  | .fault .index, _ => by decide +kernel
  | .fault .count, _ => by decide +kernel
theorem ne_done {K : PySem.W.Frag} {H : Hp} {p q : Addr} {Q : VK} (hp : H p = some (.tup (ocV .done))) (hq : H q = some (.tup [.str "done", .non])) (h : Q (.bl false) H) : rNeD K (.ref p) (.ref q) H Q :=
  ⟨_, _, .tup (SqT.of hp) (dpO K H .done), .tup (SqT.of hq) (dpO K H .done), shO _, shO _, by
    have e : PyData.eqv (.tuple (ocD .done)) (.tuple (ocD .done)) = true := by decide +kernel
    rw [e]
    exact h⟩
theorem ne_other {K : PySem.W.Frag} {H : Hp} {p q : Addr} {o : Oc} {Q : VK} (hn : o ≠ .done) (hp : H p = some (.tup (ocV o))) (hq : H q = some (.tup [.str "done", .non])) (h : Q (.bl true) H) : rNeD K (.ref p) (.ref q) H Q :=
  ⟨_, _, .tup (SqT.of hp) (dpO K H o), .tup (SqT.of hq) (dpO K H .done), shO _, shO _, by
    rw [eqO o hn]
    exact h⟩
/-- an end comes as a pair -/
def WO (F : Fx) (Q : VK) (o : Oc × Stt) : Prop := ∀ A H' p, WAt F A H' o.2 → H' p = some (.tup (ocV o.1)) → Q (.ref p) H'
theorem WO.step {F : Fx} {o : Oc × Stt} {g : Stt → Oc × Stt} {Q Q' : VK} (h : WO F Q (Oa o g)) (hd : ∀ A s1 H1 p, o = (.done, s1) → WAt F A H1 s1 → H1 p = some (.tup (ocV .done)) → Q' (.ref p) H1)
    (hn : ∀ oc H1 p, oc ≠ .done → H1 p = some (.tup (ocV oc)) → (∀ H2, Same H1 H2 → Q (.ref p) H2) → Q' (.ref p) H1) : WO F Q' o := by
  obtain ⟨oc, s1⟩ := o
  intro A H1 p R hp
  cases oc with
  | done => exact hd A s1 H1 p rfl R hp
  | retry => exact hn _ H1 p (by intro z; cases z) hp fun H2 s2 => h A H2 p (R.keep s2) (s2 _ _ hp)
  | undo => exact hn _ H1 p (by intro z; cases z) hp fun H2 s2 => h A H2 p (R.keep s2) (s2 _ _ hp)
  | fault r => exact hn _ H1 p (by intro z; cases z) hp fun H2 s2 => h A H2 p (R.keep s2) (s2 _ _ hp)
theorem WO.stepC {F : Fx} {o : Oc × Stt} {g : Stt → Oc × Stt} {Q Q' : VK} (h : WO F Q (Ch o g)) (hd : ∀ A s1 H1 p, o = (.retry, s1) → WAt F A H1 s1 → H1 p = some (.tup [.str "retry", .non]) → Q' (.ref p) H1)
    (hn : ∀ (z : Str) (u : V) H1 p, (z == ("retry" : Str)) = false → H1 p = some (.tup [.str z, u]) → (∀ H2, Same H1 H2 → Q (.ref p) H2) → Q' (.ref p) H1) : WO F Q' o := by
  obtain ⟨oc, s1⟩ := o
  intro A H1 p R hp
  cases oc with
  | retry => exact hd A s1 H1 p rfl R hp
  | done => exact hn _ _ H1 p (by decide +kernel) hp fun H2 s2 => h A H2 p (R.keep s2) (s2 _ _ hp)
  | undo => exact hn _ _ H1 p (by decide +kernel) hp fun H2 s2 => h A H2 p (R.keep s2) (s2 _ _ hp)
  | fault r => exact hn _ _ H1 p (by decide +kernel) hp fun H2 s2 => h A H2 p (R.keep s2) (s2 _ _ hp)
/-- a value in a statement -/
theorem WP.stepO {F : Fx} {A : Ad} {a : Rs} {st : Stt} {Q Q' : VK} {f : Int → Stt → Oc × Stt} (g : RGood st a) (h : WO F Q (a.bo f))
    (k : ∀ v s1 H' p s, Ok1 v → s1.later = st.later → WAt F A H' s1 → H' p = some (.tup [.int v, .str s]) → WO F Q (f v s1) → Q' (.ref p) H')
    (z : ∀ r s1 H' p, WAt F A H' s1 → H' p = some (.tup [.non, .str (wdS r)]) → (∀ H2 q, Same H' H2 → H2 q = some (.tup [.str "fault", .str (wdS r)]) → Q (.ref q) H2) → Q' (.ref p) H') : WP F A Q' a := by
  cases a with
  | er r s1 => exact fun H' p R hp => z r s1 H' p R hp fun H2 q s2 hq => h A H2 q (R.keep s2) hq
  | ok v s1 => exact fun H' p s R hp => k v s1 H' p s g.1 g.2.2 R hp h
section
variable {P : Program} {w : World} {K : PySem.W.Frag} {mg : Str → Option Value} {base : Heap}
def spLRuns : Nat → Sp
  | 0 => fun _ _ _ _ => False
  | n + 1 => fun vs H Q _ => ∃ (F : Fx) (A : Ad) (st : Stt) (b : List Sm) (q : Addr), vs = [.ref F.self, .ref q] ∧ FxOk F ∧ WAt F A H st ∧ BodyAt F.G (SmAt F.G n) b q ∧ WfB n b ∧ st.later.length + 3 * cap n ≤ 1000000 ∧ WO F Q (runL (runS F.mem n) b st)
def spLRunOne (n : Nat) : Sp := fun vs H Q _ => ∃ (F : Fx) (A : Ad) (st : Stt) (m : Sm) (v : V), vs = [.ref F.self, v] ∧ FxOk F ∧ WAt F A H st ∧ SmAt F.G n m v ∧ Wf n m ∧ st.later.length + cap n ≤ 1000000 ∧ WO F Q (runS F.mem n m st)
def spLChosen (m : Nat) : Sp := fun vs H Q _ => ∃ (n : Nat) (F : Fx) (A : Ad) (st : Stt) (a b : List Sm) (v : V), m = n + 1 ∧ vs = [.ref F.self, v] ∧ FxOk F ∧ WAt F A H st ∧ SmAt F.G m (.cho a b) v ∧ Wf m (.cho a b) ∧ st.later.length + cap m ≤ 1000000 ∧ WO F Q (runS F.mem m (.cho a b) st)
theorem scLRuns : FnScope ["_law_world", "_law_body_here", "_law_statement_here", "_law_end"] ["_law_world", "_law_body_here"] (defScope sRuns) := ⟨rfl, rfl, rfl, by decide +kernel, rfl, by decide +kernel, by decide +kernel⟩
theorem scLRunOne : FnScope ["_law_world", "_law_statement_here", "_law_kind", "_law_first", "_law_reason", "_law_second", "_law_number_here", "_law_turn", "_law_end"] ["_law_world", "_law_statement_here"] (defScope sLRunOne) := ⟨rfl, rfl, rfl, by decide +kernel, rfl, by decide +kernel, by decide +kernel⟩
theorem scLChosen : FnScope ["_law_world", "_law_statement_here", "_law_kept", "_law_end"] ["_law_world", "_law_statement_here"] (defScope sChosen) := ⟨rfl, rfl, rfl, by decide +kernel, rfl, by decide +kernel, by decide +kernel⟩
theorem ok_lRuns_step (T : Txt K mg) {n j : Nat} (IH : Pr P w K mg base CX0 j (He.ga K "_law_run_one") ["_law_world", "_law_statement_here"] (spLRunOne n)) :
    Pr P w K mg base CX0 (j + 1) (He.ga K "_law_runs") ["_law_world", "_law_body_here"] (spLRuns (n + 1)) := by
  refine T.f_law_runs.pr scLRuns (fun _ _ _ _ _ _ us hl => match us, hl with | [_, _], _ => rfl) (fun vs H Q E h => ?_) (fun cdv A outer s H vs Q E hr h => ?_)
  · obtain ⟨F, A1, st, b, q, rfl, _⟩ := h
    rfl
  obtain ⟨F, A1, st, b, q, rfl, fo, R, ⟨vs, hq, hp⟩, wf, hl, h⟩ := h
  have hu64 := hr.units
  refine ⟨_, (pss_cons (ps_for PassesOwn.never rfl (pi_list (pv 1)) (pg_name (i := 2) scLRuns.nd rfl (Or.inl rfl)) (pss_cons (ps_set (i := 3) scLRuns.nd rfl (Or.inl rfl) (pe_callP (IH) hr rfl (T.glo _ (by decide +kernel)) pass0 (pa_cons (pv 0) (pa_cons (pv 2) pa_nil))))
      (pss_one (ps_if (pt_cmpR (op_neD hu64) (pv 3) (pe_tup (pa_cons (pe_str) (pa_cons (pe_non) pa_nil))) (nomark _)) (pss_one (ps_ret (pv 3))) pss_nil))))
      (pss_one (ps_ret (pe_tup (pa_cons (pe_str) (pa_cons (pe_non) pa_nil)))))), ?_⟩
  have el : b.length = vs.length := Paired.length hp
  refine ⟨_, rfl, q, rfl, ⟨_, SqL.of (R.same _ _ hq)⟩, for_list (K := K) (a := q) (xs := vs) (fun i σ H' => ∃ (A2 : Ad) (s1 : Stt) (v2 v3 : Option V), σ = [some (.ref F.self), some (.ref q), v2, v3] ∧ WAt F A2 H' s1 ∧ runL (runS F.mem n) b st = runL (runS F.mem n) (b.drop i) s1 ∧ s1.later.length + (3 - i) * cap n ≤ 1000000)
    ⟨A1, st, none, none, rfl, R, rfl, hl⟩ (fun i σ H' _ ⟨_, _, _, _, _, R1, _⟩ => SqL.of (R1.same _ _ hq)) ?_ ?_⟩
  · rintro i y σ H' hi ⟨A2, s1, v2, v3, rfl, R1, e1, l1⟩
    obtain ⟨m, hm, hsm⟩ := paired_get hp hi
    have hil : i < b.length := (List.getElem?_eq_some_iff.mp hm).1
    have ed : b.drop i = m :: b.drop (i + 1) := by
      rw [List.drop_eq_getElem_cons hil]
      congr 1
      exact (List.getElem?_eq_some_iff.mp hm).2
    have hmem : m ∈ b := List.mem_of_getElem? hm
    have hc : (3 - i) * cap n = (3 - (i + 1)) * cap n + cap n := by
      have : 3 - i = (3 - (i + 1)) + 1 := by have := wf.1; omega
      rw [this, Nat.succ_mul]
    have gd := runS_good fo.mok n m (wf.2 m hmem) s1 R1.good
    rw [ed, runL_cons] at e1
    have h' := h
    rw [e1] at h'
    refine ⟨_, rfl, _, rfl, F, A2, s1, m, y, rfl, fo, R1, hsm, wf.2 m hmem, by omega, WO.step h' (fun A3 s2 H2 p e2 R2 hp2 => ?_) fun oc H2 p hn hp2 hq2 => ?_⟩
    · refine ⟨_, rfl, two_line, fun c nc => ne_done (sm_upd nc _ _ _ hp2) upd_same ⟨_, rfl, if_f rfl ?_⟩⟩
      rw [e2] at e1 gd
      exact ⟨A3, s2, _, _, rfl, R2.keep (sm_upd nc _), e1, by have := gd.2; dsimp only at this; omega⟩
    · exact ⟨_, rfl, two_line, fun c nc => ne_other hn (sm_upd nc _ _ _ hp2) upd_same ⟨_, rfl, if_t rfl ⟨_, rfl, hq2 _ (sm_upd nc _)⟩⟩⟩
  · rintro σ H' ⟨A2, s1, v2, v3, rfl, R1, e1, l1⟩
    rw [← el, List.drop_length] at e1
    rw [e1] at h
    exact ⟨two_line, fun p np => h A2 _ p (R1.keep (sm_upd np _)) upd_same⟩
theorem ok_lChosen (T : Txt K mg) {m j : Nat} (IH : Pr P w K mg base CX0 j (He.ga K "_law_runs") ["_law_world", "_law_body_here"] (spLRuns m)) :
    Pr P w K mg base CX0 (j + 1) (He.ga K "_law_chosen") ["_law_world", "_law_statement_here"] (spLChosen m) := by
  refine T.f_law_chosen.pr scLChosen (fun _ _ _ _ _ _ us hl => match us, hl with | [_, _], _ => rfl) (fun vs H Q E h => ?_) (fun cdv A outer s H vs Q E hr h => ?_)
  · obtain ⟨n, F, A1, st, a, b, v, _, rfl, _⟩ := h
    rfl
  obtain ⟨n, F, A1, st, a, b, v, rfl, rfl, fo, R, hs, wf, hl, h⟩ := h
  obtain ⟨p, q, r, rfl, ht, hba, hbb⟩ := hs
  have hu := hu_of hr
  refine ⟨_, (pss_cons (ps_set (i := 2) scLChosen.nd rfl (Or.inl rfl) (pe_tup (pa_cons (pe_callTy call_dictD rfl (T.free _ (by decide +kernel)) (by decide +kernel) (pa_cons (pe_dget hu (pv 0) pe_str (fun _ _ => rfl)) pa_nil)) (pa_cons (pe_callTy call_dictD rfl (T.free _ (by decide +kernel)) (by decide +kernel) (pa_cons (pe_dget hu (pv 0) pe_str (fun _ _ => rfl)) pa_nil)) (pa_cons (pe_callTy call_list_of rfl (T.free _ (by decide +kernel)) (by decide +kernel) (pa_cons (pe_dget hu (pv 0) pe_str (fun _ _ => rfl)) pa_nil)) pa_nil)))))
      (pss_cons (ps_set (i := 3) scLChosen.nd rfl (Or.inl rfl) (pe_callP (IH) hr rfl (T.glo _ (by decide +kernel)) pass0 (pa_cons (pv 0) (pa_cons (pe_ix ix_tup (pv 1) pe_int (fun _ _ => rfl)) pa_nil))))
      (pss_cons (ps_if (pt_cmpR op_ne (pe_ix ix_tup (pv 3) pe_int (fun _ _ => rfl)) pe_str (nomark _)) (pss_one (ps_ret (pv 3))) pss_nil)
      (pss_cons (ps_asg (pv 2) (pg_tup rfl (pgs_cons (pg_sub (pv 0) pe_str (set_dict hu)) (pgs_cons (pg_sub (pv 0) pe_str (set_dict hu)) (pgs_cons (pg_sub (pv 0) pe_str (set_dict hu)) pgs_nil)))))
      (pss_one (ps_ret (pe_callP (IH) hr rfl (T.glo _ (by decide +kernel)) pass0 (pa_cons (pv 0) (pa_cons (pe_ix ix_tup (pv 1) pe_int (fun _ _ => rfl)) pa_nil))))))))), ?_⟩
  rw [ru_cho] at h
  obtain ⟨z1, z2, z3, z4, z5, g1, g2, g3, n1, n2, n3, n4, n5, n6⟩ := R.at_
  -- the copies
  refine ⟨_, rfl, F.self, _, rfl, d_get z1 w_locals, A1.dl, _, rfl, .inl z2, fun p1 np1 => ?_⟩
  have k1 : Same H (upd H p1 (.dK (locK st.x st.y))) := sm_upd np1 _
  refine ⟨_, rfl, F.self, _, rfl, d_get (k1 _ _ z1) w_writes, A1.dw, _, rfl, .inl (k1 _ _ z4), fun p2 np2 => ?_⟩
  have k2 := k1.trans (sm_upd np2 (.dK (kvI st.writes)))
  refine ⟨_, rfl, F.self, _, rfl, d_get (k2 _ _ z1) w_later, A1.al, _, rfl, .inl (SqL.of (k2 _ _ z5)), fun p3 np3 => ?_⟩
  have k3 := k2.trans (sm_upd np3 (.lst (st.later.map V.int)))
  refine ⟨(by show 3 ≤ sizeLine; decide), fun p4 np4 => ?_⟩
  have k4 := k3.trans (sm_upd np4 (.tup [.ref p1, .ref p2, .ref p3]))
  have N1 : H p1 = none := np1
  have N2 : H p2 = none := k1.free np2
  have N3 : H p3 = none := k2.free np3
  have N4 : H p4 = none := k3.free np4
  have p12 : p1 ≠ p2 := ne_of_none upd_same np2
  have p13 : p1 ≠ p3 := ne_of_none ((sm_upd np2 (.dK (kvI st.writes))) _ _ upd_same) np3
  have p23 : p2 ≠ p3 := ne_of_none upd_same np3
  have p14 : p1 ≠ p4 := ne_of_none ((sm_upd np3 (.lst (st.later.map V.int))) _ _ ((sm_upd np2 (.dK (kvI st.writes))) _ _ upd_same)) np4
  have p24 : p2 ≠ p4 := ne_of_none ((sm_upd np3 (.lst (st.later.map V.int))) _ _ upd_same) np4
  have p34 : p3 ≠ p4 := ne_of_none upd_same np4
  -- the ground with the copies
  have GS : Same F.G (upd (upd (upd (upd F.G p1 (.dK (locK st.x st.y))) p2 (.dK (kvI st.writes))) p3 (.lst (st.later.map V.int))) p4 (.tup [.ref p1, .ref p2, .ref p3])) := fun c o e => by
    have e' := R.same _ _ e
    rw [upd_ne (ne_of_none e' N4), upd_ne (ne_of_none e' N3), upd_ne (ne_of_none e' N2), upd_ne (ne_of_none e' N1)]
    exact e
  have GH := sm_both (sm_both (sm_both (sm_both R.same p1 (.dK (locK st.x st.y))) p2 (.dK (kvI st.writes))) p3 (.lst (st.later.map V.int))) p4 (.tup [.ref p1, .ref p2, .ref p3])
  have Gn : ∀ {x : Addr} {o : HO}, H x = some o → F.G x = none → (upd (upd (upd (upd F.G p1 (.dK (locK st.x st.y))) p2 (.dK (kvI st.writes))) p3 (.lst (st.later.map V.int))) p4 (.tup [.ref p1, .ref p2, .ref p3])) x = none := fun {x o} e e2 => by
    rw [upd_ne (ne_of_none e N4), upd_ne (ne_of_none e N3), upd_ne (ne_of_none e N2), upd_ne (ne_of_none e N1)]
    exact e2
  generalize hG : (upd (upd (upd (upd F.G p1 (.dK (locK st.x st.y))) p2 (.dK (kvI st.writes))) p3 (.lst (st.later.map V.int))) p4 (.tup [.ref p1, .ref p2, .ref p3])) = G at GS GH Gn
  have G1 : G p1 = some (.dK (locK st.x st.y)) := by rw [← hG, upd_ne p14, upd_ne p13, upd_ne p12, upd_same]
  have G2 : G p2 = some (.dK (kvI st.writes)) := by rw [← hG, upd_ne p24, upd_ne p23, upd_same]
  have G3 : G p3 = some (.lst (st.later.map V.int)) := by rw [← hG, upd_ne p34, upd_same]
  have G4 : G p4 = some (.tup [.ref p1, .ref p2, .ref p3]) := by rw [← hG, upd_same]
  have fo2 : FxOk ⟨G, F.self, F.ac, F.am, F.dr, F.mem⟩ := ⟨fo.cells.mono GS, GS _ _ fo.memo, fo.mok, Gn z1 fo.gs, Gn z3 fo.gr⟩
  have R2 : WAt ⟨G, F.self, F.ac, F.am, F.dr, F.mem⟩ A1 _ st :=
    ⟨GH, R.good, k4 _ _ z1, k4 _ _ z2, k4 _ _ z3, k4 _ _ z4, k4 _ _ z5, Gn z2 g1, Gn z4 g2, Gn z5 g3, n1, n2, n3, n4, n5, n6⟩
  -- back to the own ground
  have back : ∀ {A : Ad} {H' : Hp} {s1 : Stt}, WAt ⟨G, F.self, F.ac, F.am, F.dr, F.mem⟩ A H' s1 → WAt F A H' s1 := fun {A H' s1} R' => by
    obtain ⟨y1, y2, y3, y4, y5, f1, f2, f3, r'⟩ := R'.at_
    exact ⟨GS.trans R'.same, R'.good, y1, y2, y3, y4, y5, GS.free f1, GS.free f2, GS.free f3, r'⟩
  have hc := cap_pos n
  have ec : cap (n + 1) = 60 * cap n := rfl
  have gd := (runB_good fo.mok (n := n) (b := a) wf.1.2 R.good).mono (Nat.mul_le_mul_right _ wf.1.1)
  have opB : WO ⟨G, F.self, F.ac, F.am, F.dr, F.mem⟩ Q (Ch (runL (runS F.mem n) a st) fun s => runL (runS F.mem n) b { st with reads := s.reads }) := fun A H1 p R' hp => h A H1 p (back R') hp
  have ht1 := k4 _ _ (R.same _ _ ht)
  refine ⟨_, rfl, _, rfl, p, _, _, _, rfl, rfl, SqT.of ht1, a1, ⟨G, F.self, F.ac, F.am, F.dr, F.mem⟩, A1, st, a, q, rfl, fo2, R2, hba.mono GS (fun s v => SmAt.mono GS n s v), wf.1, by omega, WO.stepC opB (fun A3 s3 H3 pe e3 R3 hpe => ?_) fun z u H3 pe hz hpe hq2 => ?_⟩
  · -- it retries: all is put back, then the second list
    refine ⟨_, rfl, pe, _, _, _, rfl, rfl, SqT.of hpe, a0, rfl, _, rfl, if_f (by decide +kernel) ?_⟩
    rw [e3] at h gd
    obtain ⟨y1, y2, y3, y4, y5, f1, f2, f3, m1, m2, m3, m4, m5, m6⟩ := R3.at_
    have s1 := R3.same _ _ G1
    have s2 := R3.same _ _ G2
    have s3' := R3.same _ _ G3
    have nself : ∀ {x : Addr} {o : HO}, G x = some o → x ≠ F.self := fun {x o} e z => by
      rw [z, Gn z1 fo.gs] at e
      cases e
    refine ⟨_, rfl, p4, _, rfl, SqT.of (R3.same _ _ G4), rfl, ?_⟩
    have l6 : ∀ {d ac am dr dw al : Addr}, (wK d ac am dr dw al).length < sizeLine := fun {_ _ _ _ _ _} => (by decide : 6 < sizeLine)
    have pl : putK (wK A3.dl F.ac F.am F.dr A3.dw A3.al) (Sum.inr "locals" : Key) (.ref p1) = wK p1 F.ac F.am F.dr A3.dw A3.al := w_put_locals
    have pw : putK (wK p1 F.ac F.am F.dr A3.dw A3.al) (Sum.inr "writes" : Key) (.ref p2) = wK p1 F.ac F.am F.dr p2 A3.al := w_put_writes
    have pa : putK (wK p1 F.ac F.am F.dr p2 A3.al) (Sum.inr "later" : Key) (.ref p3) = wK p1 F.ac F.am F.dr p2 p3 := w_put_later
    refine ⟨_, _, rfl, _, rfl, F.self, _, rfl, DPut.k (k := Sum.inr "locals") y1 l6, ?_⟩
    rw [pl]
    refine ⟨_, _, rfl, _, rfl, F.self, _, rfl, DPut.k (k := Sum.inr "writes") upd_same l6, ?_⟩
    rw [pw, upd_upd]
    refine ⟨_, _, rfl, _, rfl, F.self, _, rfl, DPut.k (k := Sum.inr "later") upd_same l6, ?_⟩
    rw [pa, upd_upd]
    refine ⟨rfl, ?_⟩
    have R4 : WAt F ⟨p1, p2, p3⟩ (upd H3 F.self (.dK (wK p1 F.ac F.am F.dr p2 p3))) { st with reads := s3.reads } := by
      refine ⟨sm_put (GS.trans R3.same) fo.gs _, ⟨R.good.x, R.good.y, R3.good.r, R.good.w⟩, upd_same, ?_, ?_, ?_, ?_, R.same.free N1, R.same.free N2, R.same.free N3, ?_, p12, ?_, m4, ?_, ?_⟩
      · rw [upd_ne (nself G1)]; exact s1
      · rw [upd_ne (Ne.symm m4)]; exact y3
      · rw [upd_ne (nself G2)]; exact s2
      · rw [upd_ne (nself G3)]; exact s3'
      · exact (ne_of_none z3 N1).symm
      · exact ne_of_none z3 N2
      · exact (nself G1).symm
      · exact (nself G2).symm
    have ht1 := R4.same _ _ ht
    exact ⟨_, rfl, _, rfl, p, _, _, _, rfl, rfl, SqT.of ht1, a2, F, _, _, b, r, rfl, fo, R4, hbb, wf.2, by have := gd.2; dsimp only; omega, h⟩
  · refine ⟨_, rfl, pe, _, _, _, rfl, rfl, SqT.of hpe, a0, rfl, _, rfl, if_t (by rw [dS_f hz]; rfl) ⟨_, rfl, hq2 _ (.refl _)⟩⟩
theorem ok_lRunOne (T : Txt K mg) {m j : Nat} (IHr : Pr P w K mg base CX0 j (He.ga K "_law_runs") ["_law_world", "_law_body_here"] (spLRuns m)) (hj : 8 ≤ j) :
    Pr P w K mg base CX0 (j + 2) (He.ga K "_law_run_one") ["_law_world", "_law_statement_here"] (spLRunOne m) := by
  have IHc := ok_lChosen T IHr
  refine T.f_law_run_one.pr scLRunOne (fun _ _ _ _ _ _ us hl => match us, hl with | [_, _], _ => rfl) (fun vs H Q E h => ?_) (fun cdv A outer s H vs Q E hr h => ?_)
  · obtain ⟨F, A1, st, m, v, rfl, _⟩ := h
    rfl
  obtain ⟨F, A1, st, s0, v, rfl, fo, R, hs, wf, hl, h⟩ := h
  have hu := hu_of hr
  have hu64 := hr.units
  refine ⟨_, (pss_cons (ps_set (i := 2) scLRunOne.nd rfl (Or.inl rfl) (pe_ix ix_tup (pv 1) pe_int (fun _ _ => rfl)))
      (pss_cons (ps_if (pt_cmpR op_in_seq (pv 2) (pe_lst (pa_cons pe_str (pa_cons pe_str pa_nil))) rfl) (pss_one (ps_ret (pe_tup (pa_cons (pv 2) (pa_cons (pe_non) pa_nil))))) pss_nil)
      (pss_cons (ps_if (pt_cmpR op_eq (pv 2) pe_str (nomark _)) (pss_one (ps_ret (pe_callP (IHc) hr rfl (T.glo _ (by decide +kernel)) pass0 (pa_cons (pv 0) (pa_cons (pv 1) pa_nil))))) pss_nil)
      (pss_cons (ps_asg (pe_callP (ok_lValue T 4) (hr.mono (by omega)) rfl (T.glo _ (by decide +kernel)) pass0 (pa_cons (pv 0) (pa_cons (pe_ifExp (pt_cmpR op_in_seq (pv 2) (pe_lst (pa_cons pe_str (pa_cons pe_str pa_nil))) rfl) (pe_ix ix_tup (pv 1) pe_int (fun _ _ => rfl)) (pe_ix ix_tup (pv 1) pe_int (fun _ _ => rfl))) pa_nil))) (pg_tup rfl (pgs_cons (pg_name (i := 3) scLRunOne.nd rfl (Or.inl rfl)) (pgs_cons (pg_name (i := 4) scLRunOne.nd rfl (Or.inl rfl)) pgs_nil))))
      (pss_cons (ps_if (pt_cmp (pc_isN (pv 3))) (pss_one (ps_ret (pe_tup (pa_cons (pe_str) (pa_cons (pv 4) pa_nil))))) pss_nil)
      (pss_cons (ps_if (pt_cmpR op_eq (pv 2) pe_str (nomark _)) (pss_one (ps_dput hu (pe_dget hu (pv 0) pe_str (fun _ _ => rfl)) (pe_ix ix_tup (pv 1) pe_int (fun _ _ => rfl)) (pv 3) rfl)) pss_nil)
      (pss_cons (ps_if (pt_cmpR op_eq (pv 2) pe_str (nomark _)) (pss_one (ps_expr (pe_bm PySem.F.plainAttrs_list PySem.F.slot_list_append PySem.F.type_list_append mt_append (pe_dget hu (pv 0) pe_str (fun _ _ => rfl)) (pa_cons (pv 3) pa_nil)))) pss_nil)
      (pss_cons (ps_if (pt_cmpR op_eq (pv 2) pe_str (nomark _)) (pss_cons (ps_asg (pe_callP (ok_lValue T 4) (hr.mono (by omega)) rfl (T.glo _ (by decide +kernel)) pass0 (pa_cons (pv 0) (pa_cons (pe_ix ix_tup (pv 1) pe_int (fun _ _ => rfl)) pa_nil))) (pg_tup rfl (pgs_cons (pg_name (i := 5) scLRunOne.nd rfl (Or.inl rfl)) (pgs_cons (pg_name (i := 4) scLRunOne.nd rfl (Or.inl rfl)) pgs_nil))))
      (pss_cons (ps_set (i := 6) scLRunOne.nd rfl (Or.inl rfl) (pe_callP (ok_lPlace T) (hr.mono (by omega)) rfl (T.glo _ (by decide +kernel)) pass0 (pa_cons (pe_dget hu (pv 0) pe_str (fun _ _ => rfl)) (pa_cons (pe_ix ix_tup (pv 1) pe_int (fun _ _ => rfl)) (pa_cons (pv 3) pa_nil)))))
      (pss_cons (ps_if (pt_cmp (pc_isN (pv 5))) (pss_one (ps_ret (pe_tup (pa_cons (pe_str) (pa_cons (pv 4) pa_nil))))) pss_nil)
      (pss_cons (ps_if (pt_cmp (pc_isN (pv 6))) (pss_one (ps_ret (pe_tup (pa_cons (pe_str) (pa_cons (pe_str) pa_nil))))) pss_nil)
      (pss_one (ps_dput hu (pe_dget hu (pv 0) pe_str (fun _ _ => rfl)) (pv 6) (pv 5) rfl)))))) pss_nil)
      (pss_cons (ps_if (pt_cmpR op_eq (pv 2) pe_str (nomark _)) (pss_one (ps_ret (pe_callP (IHr) (hr.mono (by omega)) rfl (T.glo _ (by decide +kernel)) pass0 (pa_cons (pv 0) (pa_cons (pe_ifExp (pt_cmpR op_ne (pv 3) pe_int (nomark _)) (pe_ix ix_tup (pv 1) pe_int (fun _ _ => rfl)) (pe_ix ix_tup (pv 1) pe_int (fun _ _ => rfl))) pa_nil))))) pss_nil)
      (pss_cons (ps_if (pt_cmpR op_eq (pv 2) pe_str (nomark _)) (pss_cons (ps_if (PW.pt (pw_or (pt_cmpR op_lt (pv 3) pe_int (nomark _)) (pw_or1 (pt_cmpR op_gt (pv 3) pe_int (nomark _))))) (pss_one (ps_ret (pe_tup (pa_cons (pe_str) (pa_cons (pe_str) pa_nil))))) pss_nil)
      (pss_one (ps_for PassesOwn.never rfl (pi_range1 rfl (T.free _ (by decide +kernel)) (pa_cons (pv 3) pa_nil)) (pg_name (i := 7) scLRunOne.nd rfl (Or.inl rfl)) (pss_cons (ps_set (i := 8) scLRunOne.nd rfl (Or.inl rfl) (pe_callP (IHr) (hr.mono (by omega)) rfl (T.glo _ (by decide +kernel)) pass0 (pa_cons (pv 0) (pa_cons (pe_ix ix_tup (pv 1) pe_int (fun _ _ => rfl)) pa_nil))))
      (pss_one (ps_if (pt_cmpR (op_neD hu64) (pv 8) (pe_tup (pa_cons (pe_str) (pa_cons (pe_non) pa_nil))) (nomark _)) (pss_one (ps_ret (pv 8))) pss_nil)))))) pss_nil)
      (pss_one (ps_ret (pe_tup (pa_cons (pe_str) (pa_cons (pe_non) pa_nil))))))))))))))), ?_⟩
  have gE := evE_good fo.mok
  have hcap := cap_pos m
  -- ("fault", reason) is handed back
  have lost : ∀ {z : Str} {H' : Hp}, (∀ H2 q, Same H' H2 → H2 q = some (.tup [.str "fault", .str z]) → Q (.ref q) H2) → ∀ p, H' p = none → Q (.ref p) (upd H' p (.tup [.str "fault", .str z])) := fun {z H'} k p np => k _ p (sm_upd np _) upd_same
  -- ("done", None) is handed back
  have fin : ∀ {A : Ad} {H' : Hp} {s1 : Stt}, WO F Q (.done, s1) → WAt F A H' s1 → ∀ p, H' p = none → Q (.ref p) (upd H' p (.tup [.str "done", .non])) := fun {A H' s1} k R' p np => k A _ p (R'.keep (sm_upd np _)) upd_same
  cases s0 with
  | retry =>
    rw [ru_retry] at h
    obtain ⟨p, rfl, ht⟩ : ∃ a, v = .ref a ∧ F.G a = some (.tup [.str "retry"]) := by cases m <;> exact hs
    have ht1 := R.same _ _ ht
    refine ⟨_, rfl, p, _, _, _, rfl, rfl, SqT.of ht1, a0, _, rfl, two_line, fun pt npt => ⟨pt, _, rfl, .inl (SqL.of upd_same), rfl, rfl, _, rfl, if_t (by decide +kernel) ?_⟩⟩
    exact ⟨_, rfl, two_line, fun p2 np2 => h A1 _ p2 (R.keep ((sm_upd npt _).trans (sm_upd np2 _))) upd_same⟩
  | undo =>
    rw [ru_undo] at h
    obtain ⟨p, rfl, ht⟩ : ∃ a, v = .ref a ∧ F.G a = some (.tup [.str "undo"]) := by cases m <;> exact hs
    have ht1 := R.same _ _ ht
    refine ⟨_, rfl, p, _, _, _, rfl, rfl, SqT.of ht1, a0, _, rfl, two_line, fun pt npt => ⟨pt, _, rfl, .inl (SqL.of upd_same), rfl, rfl, _, rfl, if_t (by decide +kernel) ?_⟩⟩
    exact ⟨_, rfl, two_line, fun p2 np2 => h A1 _ p2 (R.keep ((sm_upd npt _).trans (sm_upd np2 _))) upd_same⟩
  | set l e =>
    rw [ru_set] at h
    obtain ⟨p, u, rfl, ht, he, hd⟩ : ∃ a u, v = .ref a ∧ F.G a = some (.tup [.str "set", .str (lcS l), u]) ∧ ExAt F.G e u ∧ exD e ≤ 3 := by cases m <;> exact hs
    have ht1 := R.same _ _ ht
    refine ⟨_, rfl, p, _, _, _, rfl, rfl, SqT.of ht1, a0, _, rfl, two_line, fun pt npt => ⟨pt, _, rfl, .inl (SqL.of upd_same), rfl, rfl, _, rfl, if_f (by decide +kernel) ⟨_, rfl, rfl, _, rfl, st_f (by decide +kernel) ?_⟩⟩⟩
    refine ⟨_, rfl, _, rfl, two_line, fun pt2 npt2 => ⟨pt2, _, rfl, .inl (SqL.of upd_same), rfl, rfl, _, rfl, if_t (by decide +kernel) ?_⟩⟩
    have R0 := R.keep ((sm_upd npt (.lst [.str "retry", .str "undo"])).trans (sm_upd npt2 (.lst [.str "set", .str "put"])))
    have ht1 := R0.same _ _ ht
    refine ⟨_, rfl, p, _, _, _, rfl, rfl, SqT.of ht1, a2, F, A1, st, e, u, rfl, fo, R0, he, by omega, WP.stepO (gE e st R.good) h (fun v s1 H1 q s ov el R1 hq h1 => ?_) fun r s1 H1 q R1 hq hl2 => ?_⟩
    · refine ⟨q, _, rfl, SqT.of hq, rfl, _, _, rfl, _, _, rfl, rfl, _, rfl, _, rfl, iN ⟨_, rfl, rfl, _, rfl, st_t (by decide +kernel) ?_⟩⟩
      obtain ⟨z1, z2, z3, z4, z5, g1, g2, g3, n1, n2, n3, n4, n5, n6⟩ := R1.at_
      have ht1 := R1.same _ _ ht
      refine ⟨_, rfl, _, rfl, F.self, _, rfl, d_get z1 w_locals, _, rfl, p, _, _, _, rfl, rfl, SqT.of ht1, a1, A1.dl, _, rfl, DPut.k (k := Sum.inr (lcS l)) z2 (by show 2 < sizeLine; decide), ?_⟩
      rw [locK_put]
      refine ⟨_, rfl, rfl, _, rfl, st_f (by decide +kernel) ⟨_, rfl, rfl, _, rfl, st_f (by decide +kernel) ⟨_, rfl, rfl, _, rfl, st_f (by decide +kernel) ⟨_, rfl, rfl, _, rfl, st_f (by decide +kernel) ⟨two_line, fin (A := A1) h1 ⟨sm_put R1.same g1 _, R1.good.setL ov, ?_, ?_, ?_, ?_, ?_, g1, g2, g3, n1, n2, n3, n4, n5, n6⟩⟩⟩⟩⟩⟩
      · rw [upd_ne n5]; exact z1
      · exact upd_same
      · rw [upd_ne (Ne.symm n1)]; cases l <;> exact z3
      · rw [upd_ne (Ne.symm n2)]; cases l <;> exact z4
      · rw [upd_ne (ne_of z5 z2 (by intro z; cases z))]; cases l <;> exact z5
    · exact ⟨q, _, rfl, SqT.of hq, rfl, _, _, rfl, _, _, rfl, rfl, _, rfl, _, rfl, iY ⟨_, rfl, two_line, lost hl2⟩⟩
  | put c i e =>
    rw [ru_put] at h
    obtain ⟨p, u, u2, rfl, ht, ⟨hi, hid⟩, he, hd⟩ : ∃ a u w, v = .ref a ∧ F.G a = some (.tup [.str "put", .str (nmS c), u, w]) ∧ (ExAt F.G i u ∧ exD i ≤ 3) ∧ ExAt F.G e w ∧ exD e ≤ 3 := by cases m <;> exact hs
    have ht1 := R.same _ _ ht
    refine ⟨_, rfl, p, _, _, _, rfl, rfl, SqT.of ht1, a0, _, rfl, two_line, fun pt npt => ⟨pt, _, rfl, .inl (SqL.of upd_same), rfl, rfl, _, rfl, if_f (by decide +kernel) ⟨_, rfl, rfl, _, rfl, st_f (by decide +kernel) ?_⟩⟩⟩
    refine ⟨_, rfl, _, rfl, two_line, fun pt2 npt2 => ⟨pt2, _, rfl, .inl (SqL.of upd_same), rfl, rfl, _, rfl, if_t (by decide +kernel) ?_⟩⟩
    have R0 := R.keep ((sm_upd npt (.lst [.str "retry", .str "undo"])).trans (sm_upd npt2 (.lst [.str "set", .str "put"])))
    have ht1 := R0.same _ _ ht
    refine ⟨_, rfl, p, _, _, _, rfl, rfl, SqT.of ht1, a2, F, A1, st, i, u, rfl, fo, R0, hi, by omega, WP.stepO (gE i st R.good) h (fun v s1 H1 q s ov el R1 hq h1 => ?_) fun r s1 H1 q R1 hq hl2 => ?_⟩
    · refine ⟨q, _, rfl, SqT.of hq, rfl, _, _, rfl, _, _, rfl, rfl, _, rfl, _, rfl, iN (⟨_, rfl, rfl, _, rfl, st_f (by decide +kernel) ⟨_, rfl, rfl, _, rfl, st_f (by decide +kernel) ⟨_, rfl, rfl, _, rfl, st_t (by decide +kernel) ?_⟩⟩⟩)⟩
      have ht1 := R1.same _ _ ht
      refine ⟨_, rfl, _, rfl, p, _, _, _, rfl, rfl, SqT.of ht1, a3, F, A1, s1, e, u2, rfl, fo, R1, he, by omega, WP.stepO (gE e s1 R1.good) h1 (fun z s2 H2 q2 s' oz el2 R2 hq2 h2 => ?_) fun r s2 H2 q2 R2 hq2 hl3 => ?_⟩
      · have ht1 := R2.same _ _ ht
        obtain ⟨z1, z2, z3, z4, z5, g1, g2, g3, n1, n2, n3, n4, n5, n6⟩ := id R2.at_
        refine ⟨q2, _, rfl, SqT.of hq2, rfl, _, _, rfl, _, _, rfl, rfl, ?_⟩
        refine ⟨_, rfl, F.self, _, rfl, d_get z1 w_cells, _, rfl, p, _, _, _, rfl, rfl, SqT.of ht1, a1, _, rfl, F.ac, c, v, rfl, fo.cells.mono R2.same, ?_⟩
        refine ⟨_, rfl, _, rfl, iN ?_⟩
        by_cases hk : 0 ≤ v ∧ v < sizeOf c
        · rw [if_pos hk] at h2
          have e : plO c v = .int (firstOf c + v) := if_pos hk
          rw [e]
          obtain ⟨k0, k6⟩ := first_size c hk.1 hk.2
          refine ⟨_, rfl, _, rfl, iN ⟨_, rfl, _, rfl, F.self, _, rfl, d_get z1 w_writes, _, rfl, A1.dw, _, rfl, DPut.k (k := Sum.inl (firstOf c + v)) z4 (kvI_line R2.good.w), ?_⟩⟩
          rw [putK_kv]
          refine ⟨_, rfl, rfl, _, rfl, st_f (by decide +kernel) ⟨_, rfl, rfl, _, rfl, st_f (by decide +kernel) ⟨two_line, fin (A := A1) h2 ⟨sm_put R2.same g2 _, ⟨R2.good.x, R2.good.y, R2.good.r, R2.good.w.put k0 k6 oz⟩, ?_, ?_, ?_, ?_, ?_, g1, g2, g3, n1, n2, n3, n4, n5, n6⟩⟩⟩⟩
          · rw [upd_ne n6]; exact z1
          · rw [upd_ne n2]; exact z2
          · rw [upd_ne n3]; exact z3
          · exact upd_same
          · rw [upd_ne (ne_of z5 z4 (by intro z; cases z))]; exact z5
        · rw [if_neg hk] at h2
          have e : plO c v = .non := if_neg hk
          rw [e]
          exact ⟨_, rfl, _, rfl, iY ⟨two_line, fun p2 np2 => h2 A1 _ p2 (R2.keep (sm_upd np2 _)) upd_same⟩⟩
      · have ht1 := R2.same _ _ ht
        obtain ⟨z1, _⟩ := id R2.at_
        refine ⟨q2, _, rfl, SqT.of hq2, rfl, _, _, rfl, _, _, rfl, rfl, ?_⟩
        refine ⟨_, rfl, F.self, _, rfl, d_get z1 w_cells, _, rfl, p, _, _, _, rfl, rfl, SqT.of ht1, a1, _, rfl, F.ac, c, v, rfl, fo.cells.mono R2.same, ?_⟩
        exact ⟨_, rfl, _, rfl, iY ⟨_, rfl, two_line, lost hl3⟩⟩
    · exact ⟨q, _, rfl, SqT.of hq, rfl, _, _, rfl, _, _, rfl, rfl, _, rfl, _, rfl, iY ⟨_, rfl, two_line, lost hl2⟩⟩
  | later e =>
    rw [ru_later] at h
    obtain ⟨p, u, rfl, ht, he, hd⟩ : ∃ a u, v = .ref a ∧ F.G a = some (.tup [.str "later", u]) ∧ ExAt F.G e u ∧ exD e ≤ 3 := by cases m <;> exact hs
    have ht1 := R.same _ _ ht
    refine ⟨_, rfl, p, _, _, _, rfl, rfl, SqT.of ht1, a0, _, rfl, two_line, fun pt npt => ⟨pt, _, rfl, .inl (SqL.of upd_same), rfl, rfl, _, rfl, if_f (by decide +kernel) ⟨_, rfl, rfl, _, rfl, st_f (by decide +kernel) ?_⟩⟩⟩
    refine ⟨_, rfl, _, rfl, two_line, fun pt2 npt2 => ⟨pt2, _, rfl, .inl (SqL.of upd_same), rfl, rfl, _, rfl, if_f (by decide +kernel) ?_⟩⟩
    have R0 := R.keep ((sm_upd npt (.lst [.str "retry", .str "undo"])).trans (sm_upd npt2 (.lst [.str "set", .str "put"])))
    have ht1 := R0.same _ _ ht
    refine ⟨_, rfl, p, _, _, _, rfl, rfl, SqT.of ht1, a1, F, A1, st, e, u, rfl, fo, R0, he, by omega, WP.stepO (gE e st R.good) h (fun v s1 H1 q s ov el R1 hq h1 => ?_) fun r s1 H1 q R1 hq hl2 => ?_⟩
    · refine ⟨q, _, rfl, SqT.of hq, rfl, _, _, rfl, _, _, rfl, rfl, _, rfl, _, rfl, iN ⟨_, rfl, rfl, _, rfl, st_f (by decide +kernel) ⟨_, rfl, rfl, _, rfl, st_t (by decide +kernel) ?_⟩⟩⟩
      obtain ⟨z1, z2, z3, z4, z5, g1, g2, g3, n1, n2, n3, n4, n5, n6⟩ := R1.at_
      have ll := len_eq el
      refine ⟨_, rfl, F.self, _, rfl, d_get z1 w_later, .inl ⟨rfl, _, SqL.of z5⟩, _, rfl, A1.al, _, _, rfl, rfl, z5, by rw [List.length_map]; exact small_line (by omega), ?_⟩
      refine ⟨_, rfl, rfl, _, rfl, st_f (by decide +kernel) ⟨_, rfl, rfl, _, rfl, st_f (by decide +kernel) ⟨_, rfl, rfl, _, rfl, st_f (by decide +kernel) ⟨two_line, fin (A := A1) h1 ⟨sm_put R1.same g3 _, ⟨R1.good.x, R1.good.y, R1.good.r, R1.good.w⟩, ?_, ?_, ?_, ?_, ?_, g1, g2, g3, n1, n2, n3, n4, n5, n6⟩⟩⟩⟩⟩
      · rw [upd_ne (ne_of z1 z5 (by intro z; cases z))]; exact z1
      · rw [upd_ne (ne_of z2 z5 (by intro z; cases z))]; exact z2
      · rw [upd_ne (ne_of z3 z5 (by intro z; cases z))]; exact z3
      · rw [upd_ne (ne_of z4 z5 (by intro z; cases z))]; exact z4
      · show upd H1 A1.al (.lst (s1.later.map V.int ++ [.int v])) A1.al = some (.lst ((s1.later ++ [v]).map V.int))
        rw [upd_same, List.map_append]
        rfl
    · exact ⟨q, _, rfl, SqT.of hq, rfl, _, _, rfl, _, _, rfl, rfl, _, rfl, _, rfl, iY ⟨_, rfl, two_line, lost hl2⟩⟩
  | ite c a b =>
    cases m with
    | zero => exact wf.elim
    | succ n =>
      rw [ru_ite] at h
      obtain ⟨p, u, q0, r0, rfl, ht, ⟨hc, hcd⟩, hba, hbb⟩ := hs
      have ht1 := R.same _ _ ht
      refine ⟨_, rfl, p, _, _, _, rfl, rfl, SqT.of ht1, a0, _, rfl, two_line, fun pt npt => ⟨pt, _, rfl, .inl (SqL.of upd_same), rfl, rfl, _, rfl, if_f (by decide +kernel) ⟨_, rfl, rfl, _, rfl, st_f (by decide +kernel) ?_⟩⟩⟩
      refine ⟨_, rfl, _, rfl, two_line, fun pt2 npt2 => ⟨pt2, _, rfl, .inl (SqL.of upd_same), rfl, rfl, _, rfl, if_f (by decide +kernel) ?_⟩⟩
      have R0 := R.keep ((sm_upd npt (.lst [.str "retry", .str "undo"])).trans (sm_upd npt2 (.lst [.str "set", .str "put"])))
      have ht1 := R0.same _ _ ht
      have ec : cap (n + 1) = 60 * cap n := rfl
      have hc1 := cap_pos n
      refine ⟨_, rfl, p, _, _, _, rfl, rfl, SqT.of ht1, a1, F, A1, st, c, u, rfl, fo, R0, hc, by omega, WP.stepO (gE c st R.good) h (fun v s1 H1 q s ov el R1 hq h1 => ?_) fun r s1 H1 q R1 hq hl2 => ?_⟩
      · refine ⟨q, _, rfl, SqT.of hq, rfl, _, _, rfl, _, _, rfl, rfl, _, rfl, _, rfl, iN ⟨_, rfl, rfl, _, rfl, st_f (by decide +kernel) ⟨_, rfl, rfl, _, rfl, st_f (by decide +kernel) ⟨_, rfl, rfl, _, rfl, st_f (by decide +kernel) ⟨_, rfl, rfl, _, rfl, st_t (by decide +kernel) ?_⟩⟩⟩⟩⟩
        have ht1 := R1.same _ _ ht
        have ll := len_eq el
        refine ⟨_, rfl, _, rfl, rfl, _, rfl, n1 (fun e => ?_) fun e => ?_⟩
        · rw [if_pos e] at h1
          exact ⟨_, rfl, p, _, _, _, rfl, rfl, SqT.of ht1, a3, F, A1, s1, b, r0, rfl, fo, R1, hbb, wf.2, by omega, h1⟩
        · rw [if_neg e] at h1
          exact ⟨_, rfl, p, _, _, _, rfl, rfl, SqT.of ht1, a2, F, A1, s1, a, q0, rfl, fo, R1, hba, wf.1, by omega, h1⟩
      · exact ⟨q, _, rfl, SqT.of hq, rfl, _, _, rfl, _, _, rfl, rfl, _, rfl, _, rfl, iY ⟨_, rfl, two_line, lost hl2⟩⟩
  | rep c a =>
    cases m with
    | zero => exact wf.elim
    | succ n =>
      rw [ru_rep] at h
      obtain ⟨p, u, q0, rfl, ht, ⟨hc, hcd⟩, hba⟩ := hs
      have ht1 := R.same _ _ ht
      refine ⟨_, rfl, p, _, _, _, rfl, rfl, SqT.of ht1, a0, _, rfl, two_line, fun pt npt => ⟨pt, _, rfl, .inl (SqL.of upd_same), rfl, rfl, _, rfl, if_f (by decide +kernel) ⟨_, rfl, rfl, _, rfl, st_f (by decide +kernel) ?_⟩⟩⟩
      refine ⟨_, rfl, _, rfl, two_line, fun pt2 npt2 => ⟨pt2, _, rfl, .inl (SqL.of upd_same), rfl, rfl, _, rfl, if_f (by decide +kernel) ?_⟩⟩
      have R0 := R.keep ((sm_upd npt (.lst [.str "retry", .str "undo"])).trans (sm_upd npt2 (.lst [.str "set", .str "put"])))
      have ht1 := R0.same _ _ ht
      have ec : cap (n + 1) = 60 * cap n := rfl
      have hc1 := cap_pos n
      refine ⟨_, rfl, p, _, _, _, rfl, rfl, SqT.of ht1, a1, F, A1, st, c, u, rfl, fo, R0, hc, by omega, WP.stepO (gE c st R.good) h (fun v s1 H1 q s ov el R1 hq h1 => ?_) fun r s1 H1 q R1 hq hl2 => ?_⟩
      · refine ⟨q, _, rfl, SqT.of hq, rfl, _, _, rfl, _, _, rfl, rfl, _, rfl, _, rfl, iN ⟨_, rfl, rfl, _, rfl, st_f (by decide +kernel) ⟨_, rfl, rfl, _, rfl, st_f (by decide +kernel) ⟨_, rfl, rfl, _, rfl, st_f (by decide +kernel) ⟨_, rfl, rfl, _, rfl, st_f (by decide +kernel) ⟨_, rfl, rfl, _, rfl, st_t (by decide +kernel) ?_⟩⟩⟩⟩⟩⟩
        have ll := len_eq el
        refine ⟨_, rfl, _, _, rfl, rfl, _, rfl, ?_⟩
        by_cases c1 : v < 0
        · rw [if_neg (show ¬ (0 ≤ v ∧ v ≤ 20) by omega)] at h1
          exact if_t (decide_eq_true c1) (if_t rfl ⟨two_line, fun p2 np2 => h1 A1 _ p2 (R1.keep (sm_upd np2 _)) upd_same⟩)
        refine if_f (decide_eq_false c1) ⟨_, rfl, _, _, rfl, rfl, _, rfl, ?_⟩
        by_cases c2 : 20 < v
        · rw [if_neg (show ¬ (0 ≤ v ∧ v ≤ 20) by omega)] at h1
          exact if_t (decide_eq_true c2) ⟨two_line, fun p2 np2 => h1 A1 _ p2 (R1.keep (sm_upd np2 _)) upd_same⟩
        refine if_f (decide_eq_false c2) ?_
        rw [if_pos (show 0 ≤ v ∧ v ≤ 20 by omega)] at h1
        have ht0 := ht
        refine ⟨_, rfl, v, rfl, by omega, by omega, for_range (lo := 0) (n := v.toNat) (fun i σ H' => ∃ (A2 : Ad) (s2 : Stt) (v4 v5 v6 v7 v8 : Option V), σ = [some (.ref F.self), some (.ref p), some (.str "repeat"), some (.int v), v4, v5, v6, v7, v8] ∧ WAt F A2 H' s2 ∧ runN (runL (runS F.mem n) a) v.toNat s1 = runN (runL (runS F.mem n) a) (v.toNat - i) s2 ∧ s2.later.length + (20 - i) * (3 * cap n) ≤ 1000000)
          ⟨A1, s1, _, _, _, _, _, rfl, R1, rfl, ?_⟩ ?_ ?_⟩
        · omega
        · rintro i σ H' hi ⟨A2, s2, v4, v5, v6, v7, v8, rfl, R2, e1, l1⟩
          have ei : v.toNat - i = (v.toNat - (i + 1)) + 1 := by omega
          have hcm : (20 - i) * (3 * cap n) = (20 - (i + 1)) * (3 * cap n) + 3 * cap n := by
            have : 20 - i = (20 - (i + 1)) + 1 := by omega
            rw [this, Nat.succ_mul]
          have gd2 := (runB_good fo.mok (n := n) (b := a) wf.2 R2.good).mono (Nat.mul_le_mul_right _ wf.1)
          rw [ei, runN_succ] at e1
          have h' := h1
          rw [e1] at h'
          have ht1 := R2.same _ _ ht
          refine ⟨_, rfl, _, rfl, p, _, _, _, rfl, rfl, SqT.of ht1, a2, F, A2, s2, a, q0, rfl, fo, R2, hba, wf, by omega, WO.step h' (fun A3 s3 H3 pe e2 R3 hpe => ?_) fun oc H3 pe hn hpe hq2 => ?_⟩
          · refine ⟨_, rfl, two_line, fun c nc => ne_done (sm_upd nc _ _ _ hpe) upd_same ⟨_, rfl, if_f rfl ?_⟩⟩
            rw [e2] at e1 gd2
            exact ⟨A3, s3, _, _, _, _, _, rfl, R3.keep (sm_upd nc _), e1, by have := gd2.2; dsimp only at this; omega⟩
          · exact ⟨_, rfl, two_line, fun c nc => ne_other hn (sm_upd nc _ _ _ hpe) upd_same ⟨_, rfl, if_t rfl ⟨_, rfl, hq2 _ (sm_upd nc _)⟩⟩⟩
        · rintro σ H' ⟨A2, s2, v4, v5, v6, v7, v8, rfl, R2, e1, l1⟩
          rw [Nat.sub_self] at e1
          rw [e1] at h1
          exact ⟨two_line, fin (A := A2) h1 R2⟩
      · exact ⟨q, _, rfl, SqT.of hq, rfl, _, _, rfl, _, _, rfl, rfl, _, rfl, _, rfl, iY ⟨_, rfl, two_line, lost hl2⟩⟩
  | cho a b =>
    cases m with
    | zero => exact wf.elim
    | succ n =>
      obtain ⟨p, q0, r0, rfl, ht, hr1⟩ := id hs
      have ht1 := R.same _ _ ht
      refine ⟨_, rfl, p, _, _, _, rfl, rfl, SqT.of ht1, a0, _, rfl, two_line, fun pt npt => ⟨pt, _, rfl, .inl (SqL.of upd_same), rfl, rfl, _, rfl, if_f (by decide +kernel) ⟨_, rfl, rfl, _, rfl, st_t (by decide +kernel) ?_⟩⟩⟩
      exact ⟨_, rfl, _, rfl, n, F, A1, st, a, b, _, rfl, rfl, fo, R.keep (sm_upd npt _), hs, wf, hl, h⟩
/-- _law_runs, for lists nested less than m deep -/
theorem ok_lRuns (T : Txt K mg) : ∀ m : Nat, Pr P w K mg base CX0 (8 + 3 * m) (He.ga K "_law_runs") ["_law_world", "_law_body_here"] (spLRuns m)
  | 0 => none2 T.f_law_runs (fun _ _ _ _ _ _ us hl => match us, hl with | [_, _], _ => rfl) fun _ _ _ _ z => z
  | m + 1 => (ok_lRuns_step T (ok_lRunOne T (ok_lRuns T m) (by omega))).mono (by omega)
end
end K13
set_option Elab.async false
set_option linter.all false
set_option maxRecDepth 100000
set_option maxHeartbeats 4000000
/-! K13L5: the law's own outcome (printed by gen_l5.py). -/
namespace K13
open PySem PySem.Spec PyProof.Rows L2
theorem putK_snoc {kvs : List (Key × V)} {k : Key} {v : V} (h : valV kvs k = none) : putK kvs k v = kvs ++ [(k, v)] := by
  unfold putK
  rw [valV_any, h]
  rfl
theorem mergeK_wK (dl ac am dr dw al : Addr) : mergeK [] (wK dl ac am dr dw al) = wK dl ac am dr dw al := by
  show putK (putK (putK (putK (putK (putK [] (Sum.inr "cells" : Key) (.ref ac)) (Sum.inr "locals" : Key) (.ref dl)) (Sum.inr "memory" : Key) (.ref am)) (Sum.inr "writes" : Key) (.ref dw)) (Sum.inr "reads" : Key) (.ref dr)) (Sum.inr "later" : Key) (.ref al) = _
  rw [putK_snoc (k := Sum.inr "cells") valV_nil]
  simp only [List.nil_append, List.cons_append]
  rw [putK_snoc (k := Sum.inr "locals") ((valV_neg (kne (by decide +kernel))).trans valV_nil)]
  simp only [List.nil_append, List.cons_append]
  rw [putK_snoc (k := Sum.inr "memory") ((valV_neg (kne (by decide +kernel))).trans ((valV_neg (kne (by decide +kernel))).trans valV_nil))]
  simp only [List.nil_append, List.cons_append]
  rw [putK_snoc (k := Sum.inr "writes") ((valV_neg (kne (by decide +kernel))).trans ((valV_neg (kne (by decide +kernel))).trans ((valV_neg (kne (by decide +kernel))).trans valV_nil)))]
  simp only [List.nil_append, List.cons_append]
  rw [putK_snoc (k := Sum.inr "reads") ((valV_neg (kne (by decide +kernel))).trans ((valV_neg (kne (by decide +kernel))).trans ((valV_neg (kne (by decide +kernel))).trans ((valV_neg (kne (by decide +kernel))).trans valV_nil))))]
  simp only [List.nil_append, List.cons_append]
  rw [putK_snoc (k := Sum.inr "later") ((valV_neg (kne (by decide +kernel))).trans ((valV_neg (kne (by decide +kernel))).trans ((valV_neg (kne (by decide +kernel))).trans ((valV_neg (kne (by decide +kernel))).trans ((valV_neg (kne (by decide +kernel))).trans valV_nil)))))]
  rfl
/-- what is due, as six parts -/
def DueAt (H : Hp) (p : Addr) (r : Rec) : Prop := ∃ a1 a2 a3 a4, H p = some (.tup [.str r.k, .ref a1, .ref a2, .ref a3, .ref a4, r.re]) ∧ H a1 = some (.dK (kvI r.rd)) ∧ H a2 = some (.dK (kvI r.wr)) ∧ H a3 = some (.lst (r.fi.map V.int)) ∧ H a4 = some (.lst (r.la.map V.int))
theorem DueAt.mono {H H' : Hp} (s : Same H H') {p : Addr} {r : Rec} : DueAt H p r → DueAt H' p r
  | ⟨a1, a2, a3, a4, h, h1, h2, h3, h4⟩ => ⟨a1, a2, a3, a4, s _ _ h, s _ _ h1, s _ _ h2, s _ _ h3, s _ _ h4⟩
section
variable {P : Program} {w : World} {K : PySem.W.Frag} {mg : Str → Option Value} {base : Heap}
def spLParts (K : PySem.W.Frag) : Sp := fun vs H Q _ => ∃ (a : Addr) (r : Rec) (G : Hp), vs = [.ref a] ∧ Same G H ∧ OutR K G a r ∧ ∀ p o, H p = none → DueAt (upd G p o) p r → Q (.ref p) (upd H p o)
theorem scLParts : FnScope ["_law_outcome_here"] ["_law_outcome_here"] (defScope sParts) := ⟨rfl, rfl, rfl, by decide +kernel, rfl, by decide +kernel, by decide +kernel⟩
theorem ok_lParts (T : Txt K mg) : Pr P w K mg base CX0 1 (He.ga K "_law_parts") ["_law_outcome_here"] (spLParts K) := by
  refine T.f_law_parts.pr scLParts (fun _ _ _ _ _ _ us hl => match us, hl with | [_], _ => rfl) (fun vs H Q E h => ?_) (fun cdv A outer s H vs Q E hr h => ?_)
  · obtain ⟨a, r, G, rfl, _⟩ := h
    rfl
  obtain ⟨a, r, G, rfl, sG, ⟨dx, a1, a2, a3, a4, g0, h1, h2, h3, h4⟩, k⟩ := h
  have h0 := sG _ _ g0
  have nn : ∀ f ∈ oflds, NoAttr K (aO K) f := T.oN
  refine ⟨_, (pss_one (ps_ret (pe_tup (pa_cons (pe_fld (pv 0) rfl) (pa_cons (pe_fld (pv 0) rfl) (pa_cons (pe_fld (pv 0) rfl) (pa_cons (pe_fld (pv 0) rfl) (pa_cons (pe_fld (pv 0) rfl) (pa_cons (pe_fld (pv 0) rfl) pa_nil))))))))), ?_⟩
  refine ⟨_, rfl, a, aO K, dx, _, _, rfl, h0, T.oC, nn _ (by decide +kernel), of_kind, _, rfl, a, aO K, dx, _, _, rfl, h0, T.oC, nn _ (by decide +kernel), of_reads, _, rfl, a, aO K, dx, _, _, rfl, h0, T.oC, nn _ (by decide +kernel), of_writes,
    _, rfl, a, aO K, dx, _, _, rfl, h0, T.oC, nn _ (by decide +kernel), of_finals, _, rfl, a, aO K, dx, _, _, rfl, h0, T.oC, nn _ (by decide +kernel), of_later, _, rfl, a, aO K, dx, _, _, rfl, h0, T.oC, nn _ (by decide +kernel), of_reason, (by show 6 ≤ sizeLine; decide), fun p np => ?_⟩
  have s : Same G (upd G p (.tup [.str r.k, .ref a1, .ref a2, .ref a3, .ref a4, r.re])) := sm_upd (sG.free np) _
  exact k p _ np ⟨a1, a2, a3, a4, upd_same, s _ _ h1, s _ _ h2, s _ _ h3, s _ _ h4⟩
/-! ### the world, new -/
def spLNew : Sp := fun vs H Q _ => ∃ (ac d0 am : Addr) (x y : Int), vs = [.ref ac, .ref d0, .ref am] ∧ NamesAt H d0 x y ∧ ∀ (wd dl dw dr al : Addr) (H' : Hp), Same H H' → H wd = none → H dl = none → H dw = none → H dr = none → H al = none →
  H' wd = some (.dK (wK dl ac am dr dw al)) → H' dl = some (.dK (locK x y)) → H' dr = some (.dK []) → H' dw = some (.dK []) → H' al = some (.lst []) → dl ≠ dr → dl ≠ dw → dr ≠ dw → wd ≠ dr → wd ≠ dl → wd ≠ dw → Q (.ref wd) H'
theorem scLNew : FnScope ["_law_cells_here", "_law_names", "_law_memory_here"] ["_law_cells_here", "_law_names", "_law_memory_here"] (defScope sNew) := ⟨rfl, rfl, rfl, by decide +kernel, rfl, by decide +kernel, by decide +kernel⟩
theorem ok_lNew (T : Txt K mg) : Pr P w K mg base CX0 1 (He.ga K "_law_new") ["_law_cells_here", "_law_names", "_law_memory_here"] spLNew := by
  refine T.f_law_new.pr scLNew (fun _ _ _ _ _ _ us hl => match us, hl with | [_, _, _], _ => rfl) (fun vs H Q E h => ?_) (fun cdv A outer s H vs Q E hr h => ?_)
  · obtain ⟨ac, d0, am, x, y, rfl, _⟩ := h
    rfl
  obtain ⟨ac, d0, am, x, y, rfl, ⟨t1, t2, h0, h1, h2⟩, k⟩ := h
  refine ⟨_, (pss_one (ps_ret (pe_disp (pps_cons (pe_str) (pv 0) (pps_cons (pe_str) (pe_callTy (call_dictP rfl) rfl (T.free _ (by decide +kernel)) (by decide +kernel) (pa_cons (pv 1) pa_nil)) (pps_cons (pe_str) (pv 2) (pps_cons (pe_str) (pe_dnewK) (pps_cons (pe_str) (pe_dnewK) (pps_cons (pe_str) (pe_lst pa_nil) pps_nil)))))) (by rfl) (by rfl) (fun z => by cases z) (by decide)))), ?_⟩
  intro wd nwd
  have s1 := sm_upd nwd (.dK [])
  refine ⟨_, rfl, _, rfl, d0, [t1, t2], [(Sum.inr "x", .int x), (Sum.inr "y", .int y)], rfl, SqL.of (s1 _ _ h0), .cons (SqT.of (s1 _ _ h1)) (.cons (SqT.of (s1 _ _ h2)) .nil), fun dl ndl => ?_⟩
  rw [mergeK_loc]
  have s2 := s1.trans (sm_upd ndl (.dK (locK x y)))
  refine ⟨_, rfl, fun dw ndw => ?_⟩
  have s3 := s2.trans (sm_upd ndw (.dK []))
  intro dr ndr
  have s4 := s3.trans (sm_upd ndr (.dK []))
  refine ⟨(by show 0 ≤ sizeLine; decide), fun al nal => ?_⟩
  have s5 := s4.trans (sm_upd nal (.lst []))
  have w1 : (upd H wd (.dK [])) wd = some (.dK []) := upd_same
  have w2 := (sm_upd ndl (.dK (locK x y))) _ _ w1
  have w3 := (sm_upd ndw (.dK [])) _ _ w2
  have w4 := (sm_upd ndr (.dK [])) _ _ w3
  have w5 := (sm_upd nal (.lst [])) _ _ w4
  have l2 : (upd (upd H wd (.dK [])) dl (.dK (locK x y))) dl = some (.dK (locK x y)) := upd_same
  have l3 := (sm_upd ndw (.dK [])) _ _ l2
  have l4 := (sm_upd ndr (.dK [])) _ _ l3
  have l5 := (sm_upd nal (.lst [])) _ _ l4
  have v3 : (upd (upd (upd H wd (.dK [])) dl (.dK (locK x y))) dw (.dK [])) dw = some (.dK []) := upd_same
  have v4 := (sm_upd ndr (.dK [])) _ _ v3
  have v5 := (sm_upd nal (.lst [])) _ _ v4
  have r4 : (upd (upd (upd (upd H wd (.dK [])) dl (.dK (locK x y))) dw (.dK [])) dr (.dK [])) dr = some (.dK []) := upd_same
  have r5 := (sm_upd nal (.lst [])) _ _ r4
  have a5 : (upd (upd (upd (upd (upd H wd (.dK [])) dl (.dK (locK x y))) dw (.dK [])) dr (.dK [])) al (.lst [])) al = some (.lst []) := upd_same
  refine ⟨w5, wK dl ac am dr dw al, rfl, by show 6 ≤ 15; decide, ?_⟩
  rw [mergeK_wK]
  have q1 : wd ≠ dl := ne_of_none w1 ndl
  have q2 : wd ≠ dw := ne_of_none w2 ndw
  have q3 : wd ≠ dr := ne_of_none w3 ndr
  have q4 : wd ≠ al := ne_of_none w4 nal
  refine k wd dl dw dr al _ (fun b o e => ?_) nwd (s1.free ndl) (s2.free ndw) (s3.free ndr) (s4.free nal) upd_same ?_ ?_ ?_ ?_ (ne_of_none l3 ndr) (ne_of_none l2 ndw) (ne_of_none v3 ndr).symm q3 q1 q2
  · rw [upd_ne (ne_of_none e nwd)]
    exact s5 _ _ e
  · rw [upd_ne (Ne.symm q1)]; exact l5
  · rw [upd_ne (Ne.symm q3)]; exact r5
  · rw [upd_ne (Ne.symm q2)]; exact v5
  · rw [upd_ne (Ne.symm q4)]; exact a5
/-! ### the outcome that is due -/
def spLOutcome : Sp := fun vs H Q _ => ∃ (b : List Sm) (q ac d0 am : Addr) (x y : Int) (mem : List Int), vs = [.ref q, .ref ac, .ref d0, .ref am] ∧ BodyAt H (SmAt H 3) b q ∧ WfB 3 b ∧ CellsAt H ac ∧ NamesAt H d0 x y ∧ Ok1 x ∧ Ok1 y ∧
  H am = some (.lst (mem.map V.int)) ∧ MemOk mem ∧ ∀ p H', Same H H' → DueAt H' p (blkR mem x y b) → Q (.ref p) H'
abbrev nLO : List Str := ["_law_body_here", "_law_cells_here", "_law_names", "_law_memory_here", "_law_world", "_law_kind", "_law_reason", "_law_before", "_law_after", "_law_name", "_law_value_here"]
theorem scLOutcome : FnScope nLO ["_law_body_here", "_law_cells_here", "_law_names", "_law_memory_here"] (defScope sOutcome) := ⟨rfl, rfl, rfl, by decide +kernel, rfl, by decide +kernel, by decide +kernel⟩
theorem ok_lOutcome (T : Txt K mg) : Pr P w K mg base CX0 21 (He.ga K "_law_outcome") ["_law_body_here", "_law_cells_here", "_law_names", "_law_memory_here"] spLOutcome := by
  refine T.f_law_outcome.pr scLOutcome (fun _ _ _ _ _ _ us hl => match us, hl with | [_, _, _, _], _ => rfl) (fun vs H Q E h => ?_) (fun cdv A outer s H vs Q E hr h => ?_)
  · obtain ⟨b, q, ac, d0, am, x, y, mem, rfl, _⟩ := h
    rfl
  obtain ⟨b, q, ac, d0, am, x, y, mem, rfl, hb, wf, hc, hn, ox, oy, hm, mo, k⟩ := h
  have hu := hu_of hr
  refine ⟨_, (pss_cons (ps_set (i := 4) scLOutcome.nd rfl (Or.inr rfl) (pe_callP (ok_lNew T) (hr.mono (by omega)) rfl (T.glo _ (by decide +kernel)) pass0 (pa_cons (pv 1) (pa_cons (pv 2) (pa_cons (pv 3) pa_nil)))))
      (pss_cons (ps_asg (pe_callP (ok_lRuns T 4) (hr.mono (by omega)) rfl (T.glo _ (by decide +kernel)) pass0 (pa_cons (pv 4) (pa_cons (pv 0) pa_nil))) (pg_tup rfl (pgs_cons (pg_name (i := 5) scLOutcome.nd rfl (Or.inl rfl)) (pgs_cons (pg_name (i := 6) scLOutcome.nd rfl (Or.inl rfl)) pgs_nil))))
      (pss_cons (ps_setLc (i := 7) (own := [("_law_name", 9), ("_law_value_here", 10)]) (g := gTup K 2 (gCons (gName 9) (gCons (gName 10) gNil))) (tt := tYes) rfl scLOutcome.nd rfl rfl (sw_true rfl rfl rfl (by decide +kernel)) (pi_list (pv 2)) (blkOk_by (N := nLO) (sc := defScope sOutcome) (by decide +kernel))
      (fun _ _ _ _ _ => pg_tup rfl (pgs_cons (pg_name (i := 9) scLOutcome.nd rfl (Or.inl rfl) (Or.inr rfl)) (pgs_cons (pg_name (i := 10) scLOutcome.nd rfl (Or.inl rfl) (Or.inr rfl)) pgs_nil))) (fun _ _ _ _ _ => pts_nil) (te := tVar 10) (fun _ _ _ _ _ => by exact (pv 10)))
      (pss_cons (ps_if (pt_cmpR op_ne (pv 5) pe_str (nomark _)) (pss_one (ps_ret (pe_tup (pa_cons (pv 5) (pa_cons (pe_dget hu (pv 4) pe_str (fun _ _ => rfl)) (pa_cons (pe_dnewK) (pa_cons (pv 7) (pa_cons (pe_lst pa_nil) (pa_cons (pv 6) pa_nil))))))))) pss_nil)
      (pss_cons (ps_setLc (i := 8) (own := [("_law_name", 9), ("_law_value_here", 10)]) (g := gTup K 2 (gCons (gName 9) (gCons (gName 10) gNil))) (tt := tYes) rfl scLOutcome.nd rfl rfl (sw_true rfl rfl rfl (by decide +kernel)) (pi_list (pv 2)) (blkOk_by (N := nLO) (sc := defScope sOutcome) (by decide +kernel))
      (fun _ _ _ _ _ => pg_tup rfl (pgs_cons (pg_name (i := 9) scLOutcome.nd rfl (Or.inl rfl) (Or.inr rfl)) (pgs_cons (pg_name (i := 10) scLOutcome.nd rfl (Or.inl rfl) (Or.inr rfl)) pgs_nil))) (fun _ _ _ _ _ => pts_nil) (te := tDGet (tDGet (tVar 4) (tC (.str "locals"))) (tVar 9)) (fun _ _ _ _ _ => by exact (pe_dget hu (pe_dget hu (pv 4) pe_str (fun _ _ => rfl)) (pv 9) (fun _ _ => rfl))))
      (pss_one (ps_ret (pe_tup (pa_cons (pv 5) (pa_cons (pe_dget hu (pv 4) pe_str (fun _ _ => rfl)) (pa_cons (pe_dget hu (pv 4) pe_str (fun _ _ => rfl)) (pa_cons (pv 8) (pa_cons (pe_dget hu (pv 4) pe_str (fun _ _ => rfl)) (pa_cons (pe_non) pa_nil)))))))))))))), ?_⟩
  obtain ⟨t1, t2, hn0, hn1, hn2⟩ := id hn
  refine ⟨_, rfl, _, rfl, _, rfl, ac, d0, am, x, y, rfl, hn, fun wd dl dw dr al H1 s1 nwd ndl ndw ndr nal f1 f2 f3 f4 f5 d1 d2 d3 d4 d5 d6 => ?_⟩
  have R1 : WAt ⟨H, wd, ac, am, dr, mem⟩ ⟨dl, dw, al⟩ H1 (blk0 x y) := ⟨s1, ⟨ox, oy, Cl.nil, Cl.nil⟩, f1, f2, f3, f4, f5, ndl, ndw, nal, d1, d2, d3, d4, d5, d6⟩
  have fo : FxOk ⟨H, wd, ac, am, dr, mem⟩ := ⟨hc, hm, mo, nwd, ndr⟩
  refine ⟨_, rfl, _, rfl, _, ⟨dl, dw, al⟩, blk0 x y, b, q, rfl, fo, R1, hb, wf, (by show 0 + 3 * cap 3 ≤ 1000000; decide), ?_⟩
  intro A2 H2 p R2 hp
  unfold blkR at k
  revert k R2 hp
  cases runL (runS mem 3) b (blk0 x y) with | mk o st => ?_
  intro k R2 hp
  obtain ⟨z1, z2, z3, z4, z5, g1, g2, g3, n1, n2, n3, n4, n5, n6⟩ := id R2.at_
  have sH : Same H H2 := R2.same
  obtain ⟨zk, ze, ek⟩ : ∃ zk ze, ocV o = [.str zk, ze] := by cases o <;> exact ⟨_, _, rfl⟩
  rw [show (o, st).1 = o from rfl, ek] at hp
  refine ⟨p, _, rfl, SqT.of hp, rfl, _, _, rfl, _, _, rfl, rfl, ?_⟩
  refine ⟨_, rfl, d0, rfl, ⟨_, SqL.of (sH _ _ hn0)⟩, fun D nD => lc_list (K := K) (a := d0) (xs := [.ref t1, .ref t2]) (fun i H' => H' = upd H2 D (.lst ([V.int x, .int y].take i))) rfl (fun i H' _ e => ?_) (fun i v H' hi e => ?_) (fun H' e => ?_)⟩
  · subst e
    exact SqL.of (sm_upd nD _ _ _ (sH _ _ hn0))
  · subst e
    match i, hi with
    | 0, hi =>
      cases hi
      refine ⟨t1, _, rfl, SqT.of (sm_upd nD _ _ _ (sH _ _ hn1)), rfl, _, _, rfl, _, _, rfl, rfl, rfl, ?_⟩
      refine yes_then ⟨_, rfl, [], upd_same, (by show 0 < sizeLine; decide), upd_upd⟩
    | 1, hi =>
      cases hi
      refine ⟨t2, _, rfl, SqT.of (sm_upd nD _ _ _ (sH _ _ hn2)), rfl, _, _, rfl, _, _, rfl, rfl, rfl, ?_⟩
      refine yes_then ⟨_, rfl, [.int x], upd_same, (by show 1 < sizeLine; decide), upd_upd⟩
    | i + 2, hi => simp at hi
  subst e
  have sD := sm_upd nD (.lst [V.int x, .int y])
  cases o with
  | retry =>
    cases ek
    refine ⟨_, rfl, rfl, _, rfl, iteNd (by decide +kernel) ?_⟩
    refine ⟨_, rfl, _, rfl, wd, _, rfl, d_get (sD _ _ z1) w_reads, fun e1 ne1 => ⟨_, rfl, (by show 0 ≤ sizeLine; decide), fun e2 ne2 => ⟨_, rfl, (by show 6 ≤ sizeLine; decide), fun pp npp => ?_⟩⟩⟩
    have t1' := sm_upd ne1 (.dK [])
    have t2' := t1'.trans (sm_upd ne2 (.lst []))
    have up3 := fun o => sm_upd npp (.tup o)
    exact k pp _ (((sH.trans sD).trans t2').trans (up3 _)) ⟨dr, e1, D, e2, upd_same, up3 _ _ _ (t2' _ _ (sD _ _ z3)), up3 _ _ _ ((sm_upd ne2 (.lst [])) _ _ upd_same), up3 _ _ _ (t2' _ _ upd_same), up3 _ _ _ upd_same⟩
  | undo =>
    cases ek
    refine ⟨_, rfl, rfl, _, rfl, iteNd (by decide +kernel) ?_⟩
    refine ⟨_, rfl, _, rfl, wd, _, rfl, d_get (sD _ _ z1) w_reads, fun e1 ne1 => ⟨_, rfl, (by show 0 ≤ sizeLine; decide), fun e2 ne2 => ⟨_, rfl, (by show 6 ≤ sizeLine; decide), fun pp npp => ?_⟩⟩⟩
    have t1' := sm_upd ne1 (.dK [])
    have t2' := t1'.trans (sm_upd ne2 (.lst []))
    have up3 := fun o => sm_upd npp (.tup o)
    exact k pp _ (((sH.trans sD).trans t2').trans (up3 _)) ⟨dr, e1, D, e2, upd_same, up3 _ _ _ (t2' _ _ (sD _ _ z3)), up3 _ _ _ ((sm_upd ne2 (.lst [])) _ _ upd_same), up3 _ _ _ (t2' _ _ upd_same), up3 _ _ _ upd_same⟩
  | fault r =>
    cases ek
    refine ⟨_, rfl, rfl, _, rfl, iteNd (by decide +kernel) ?_⟩
    refine ⟨_, rfl, _, rfl, wd, _, rfl, d_get (sD _ _ z1) w_reads, fun e1 ne1 => ⟨_, rfl, (by show 0 ≤ sizeLine; decide), fun e2 ne2 => ⟨_, rfl, (by show 6 ≤ sizeLine; decide), fun pp npp => ?_⟩⟩⟩
    have t1' := sm_upd ne1 (.dK [])
    have t2' := t1'.trans (sm_upd ne2 (.lst []))
    have up3 := fun o => sm_upd npp (.tup o)
    exact k pp _ (((sH.trans sD).trans t2').trans (up3 _)) ⟨dr, e1, D, e2, upd_same, up3 _ _ _ (t2' _ _ (sD _ _ z3)), up3 _ _ _ ((sm_upd ne2 (.lst [])) _ _ upd_same), up3 _ _ _ (t2' _ _ upd_same), up3 _ _ _ upd_same⟩
  | done =>
    cases ek
    refine ⟨_, rfl, rfl, _, rfl, if_f (by decide +kernel) ?_⟩
    refine ⟨_, rfl, d0, rfl, ⟨_, SqL.of (sD _ _ (sH _ _ hn0))⟩, fun D2 nD2 => lc_list (K := K) (a := d0) (xs := [.ref t1, .ref t2]) (fun i H' => H' = upd (upd H2 D (.lst [V.int x, .int y])) D2 (.lst ([V.int st.x, .int st.y].take i))) rfl (fun i H' _ e => ?_) (fun i v H' hi e => ?_) (fun H' e => ?_)⟩
    · subst e
      exact SqL.of (sm_upd nD2 _ _ _ (sD _ _ (sH _ _ hn0)))
    · subst e
      have h1' := sm_upd nD2 (.lst ([V.int st.x, .int st.y].take i)) _ _ (sD _ _ z1)
      have h2' := sm_upd nD2 (.lst ([V.int st.x, .int st.y].take i)) _ _ (sD _ _ z2)
      match i, hi with
      | 0, hi =>
        cases hi
        refine ⟨t1, _, rfl, SqT.of (sm_upd nD2 _ _ _ (sD _ _ (sH _ _ hn1))), rfl, _, _, rfl, _, _, rfl, rfl, rfl, ?_⟩
        exact yes_then ⟨_, rfl, wd, _, rfl, d_get h1' w_locals, _, rfl, A2.dl, .int st.x, rfl, d_get h2' (locK_get st .x), [], upd_same, (by show 0 < sizeLine; decide), upd_upd⟩
      | 1, hi =>
        cases hi
        refine ⟨t2, _, rfl, SqT.of (sm_upd nD2 _ _ _ (sD _ _ (sH _ _ hn2))), rfl, _, _, rfl, _, _, rfl, rfl, rfl, ?_⟩
        exact yes_then ⟨_, rfl, wd, _, rfl, d_get h1' w_locals, _, rfl, A2.dl, .int st.y, rfl, d_get h2' (locK_get st .y), [.int st.x], upd_same, (by show 1 < sizeLine; decide), upd_upd⟩
      | i + 2, hi => simp at hi
    subst e
    have s2 := sD.trans (sm_upd nD2 (.lst [V.int st.x, .int st.y]))
    refine ⟨_, rfl, _, rfl, wd, _, rfl, d_get (s2 _ _ z1) w_reads, _, rfl, wd, _, rfl, d_get (s2 _ _ z1) w_writes, _, rfl, _, rfl, wd, _, rfl, d_get (s2 _ _ z1) w_later, (by show 6 ≤ sizeLine; decide), fun pp npp => ?_⟩
    have up3 := fun o => sm_upd npp (.tup o)
    exact k pp _ ((sH.trans s2).trans (up3 _)) ⟨dr, A2.dw, D2, A2.al, upd_same, up3 _ _ _ (s2 _ _ z3), up3 _ _ _ (s2 _ _ z4), up3 _ _ _ upd_same, up3 _ _ _ (s2 _ _ z5)⟩
end
end K13
set_option Elab.async false
set_option linter.all false
set_option maxRecDepth 100000
set_option maxHeartbeats 4000000
/-! K13G1: the law's makers (printed by gen_g1.py): _law_mix, _law_take, _law_number, _law_cells, _law_exp, _law_index. -/
namespace K13
open PySem PySem.Spec PyProof.Rows L2
/-! ### the row of numbers at r is eaten up; all else stays -/
def RowAt (H : Hp) (r : Addr) : Prop := ∃ ns : List Int, H r = some (.lst (ns.map V.int))
structure Ro (r : Addr) (H H' : Hp) : Prop where
  st : ∀ b o, H b = some o → b ≠ r → H' b = some o
  row : RowAt H' r
theorem Ro.same {r : Addr} {H H' : Hp} (R : Ro r H H') : Same (wo r H) (wo r H') := fun b o e => by
  obtain ⟨ne, h⟩ := wo_some e
  exact wo_of (R.st b o h ne) ne
theorem Ro.refl {r : Addr} {H : Hp} (h : RowAt H r) : Ro r H H := ⟨fun _ _ e _ => e, h⟩
theorem Ro.trans {r : Addr} {H H1 H2 : Hp} (a : Ro r H H1) (b : Ro r H1 H2) : Ro r H H2 := ⟨fun c o e ne => b.st c o (a.st c o e ne) ne, b.row⟩
theorem RowAt.ne {r p : Addr} {H : Hp} (h : RowAt H r) (n : H p = none) : p ≠ r := fun e => by
  obtain ⟨ns, z⟩ := h
  rw [e, z] at n
  cases n
theorem RowAt.keep {r : Addr} {H H' : Hp} (h : RowAt H r) (s : Same H H') : RowAt H' r := h.elim fun ns z => ⟨ns, s _ _ z⟩
theorem Ro.of {r : Addr} {H H' : Hp} (h : RowAt H r) (s : Same H H') : Ro r H H' := ⟨fun b o e _ => s b o e, h.keep s⟩
theorem Ro.new {r p : Addr} {H H' : Hp} (R : Ro r H H') (n : H' p = none) (o : HO) : Ro r H (upd H' p o) := R.trans (.of R.row (sm_upd n o))
theorem Ro.free {r p : Addr} {H H' : Hp} (R : Ro r H H') (n : H' p = none) : H p = none := by
  have ne := R.row.ne n
  cases q : H p with
  | none => rfl
  | some o =>
    rw [R.st p o q ne] at n
    cases n
theorem wo_new {r p : Addr} {H : Hp} {o : HO} (h : RowAt H r) (n : H p = none) : wo r (upd H p o) p = some o := wo_of upd_same (h.ne n)
/-- the heap without some addresses -/
def wx (av : List Addr) (H : Hp) : Hp := fun b => if b ∈ av then none else H b
theorem wx_some {av : List Addr} {b : Addr} {H : Hp} {o : HO} (h : wx av H b = some o) : b ∉ av ∧ H b = some o := by
  unfold wx at h
  by_cases e : b ∈ av
  · rw [if_pos e] at h; cases h
  · rw [if_neg e] at h; exact ⟨e, h⟩
theorem wx_of {av : List Addr} {b : Addr} {H : Hp} {o : HO} (h : H b = some o) (ne : b ∉ av) : wx av H b = some o := (if_neg ne).trans h
/-- addresses that are taken -/
def Old (H : Hp) (av : List Addr) : Prop := ∀ b ∈ av, H b ≠ none
theorem Old.mono {r : Addr} {H H1 : Hp} {av : List Addr} (ho : Old H av) (R : Ro r H H1) : Old H1 av := fun b hb z => ho b hb (R.free z)
theorem Ro.sameX {r : Addr} {H H' : Hp} (R : Ro r H H') (av : List Addr) : Same (wx (r :: av) H) (wx (r :: av) H') := fun b o e => by
  obtain ⟨ne, h⟩ := wx_some e
  exact wx_of (R.st b o h fun z => ne (z ▸ List.mem_cons_self)) ne
theorem wx_new {r p : Addr} {H : Hp} {o : HO} {av : List Addr} (h : RowAt H r) (ho : Old H av) (n : H p = none) : wx (r :: av) (upd H p o) p = some o := wx_of upd_same fun z => by
  rcases List.mem_cons.mp z with e | e
  · exact h.ne n e
  · exact ho p e n
section
variable {P : Program} {w : World} {K : PySem.W.Frag} {mg : Str → Option Value} {base : Heap}
/-! ### mix -/
def spMix : Sp := fun vs H Q _ => ∃ n k : Int, vs = [.int n, .int k] ∧ ∀ z, Q (.int z) H
theorem scMix : FnScope ["_law_number_here", "_law_k"] ["_law_number_here", "_law_k"] (defScope sMix) := ⟨rfl, rfl, rfl, by decide +kernel, rfl, by decide +kernel, by decide +kernel⟩
theorem mul_r {i j : Int} (h1 : -(2 ^ 64) < j) (h2 : j < 2 ^ 64) : CMul i j := .inr ⟨h1, h2⟩
theorem mul_l {i j : Int} (h1 : -(2 ^ 64) < i) (h2 : i < 2 ^ 64) : CMul i j := .inl ⟨h1, h2⟩
theorem ok_mix (T : Txt K mg) : Pr P w K mg base CX0 1 (He.ga K "_law_mix") ["_law_number_here", "_law_k"] spMix := by
  refine T.f_law_mix.pr scMix (fun _ _ _ _ _ _ us hl => match us, hl with | [_, _], _ => rfl) (fun vs H Q E h => ?_) (fun cdv A outer s H vs Q E hr h => ?_)
  · obtain ⟨n, k, rfl, _⟩ := h
    rfl
  obtain ⟨n, k, rfl, h⟩ := h
  refine ⟨_, (pss_one (ps_ret (pe_op op_mod (pe_op op_mul (pe_op op_mod (pe_callTy call_int1 rfl (T.free _ (by decide +kernel)) (by decide +kernel) (pa_cons (pe_op op_mul (pe_op op_add (pe_op op_add (pe_op op_mod (pe_callTy call_int1 rfl (T.free _ (by decide +kernel)) (by decide +kernel) (pa_cons (pv 0) pa_nil)) (pe_int)) (pe_op op_mul (pe_int) (pv 1))) (pe_int)) (pe_int)) pa_nil)) (pe_int)) (pe_int)) (pe_int)))), ?_⟩
  exact ⟨_, rfl, .inl ⟨_, rfl, _, _, rfl, rfl, (by show (0 : Int) < 1000003; decide), _, rfl, _, _, rfl, rfl, mul_l (by decide) (by decide), _, _, rfl, rfl, _, _, rfl, rfl, _, _, rfl, rfl, mul_r (by decide) (by decide), .inl ⟨_, rfl, _, _, rfl, rfl, (by show (0 : Int) < 1000033; decide), _, _, rfl, rfl, mul_r (by decide) (by decide), _, _, rfl, rfl, (by show (0 : Int) < 998244353; decide), h _⟩⟩⟩
/-! ### take -/
def spTake : Sp := fun vs H Q _ => ∃ (r : Addr) (b : Int), vs = [.ref r, .int b] ∧ RowAt H r ∧ 0 < b ∧ ∀ z H', 0 ≤ z → z < b → Ro r H H' → Q (.int z) H'
theorem scTake : FnScope ["_law_row", "_law_bound"] ["_law_row", "_law_bound"] (defScope sTake) := ⟨rfl, rfl, rfl, by decide +kernel, rfl, by decide +kernel, by decide +kernel⟩
theorem ok_take (T : Txt K mg) : Pr P w K mg base CX0 1 (He.ga K "_law_take") ["_law_row", "_law_bound"] spTake := by
  refine T.f_law_take.pr scTake (fun _ _ _ _ _ _ us hl => match us, hl with | [_, _], _ => rfl) (fun vs H Q E h => ?_) (fun cdv A outer s H vs Q E hr h => ?_)
  · obtain ⟨r, b, rfl, _⟩ := h
    rfl
  obtain ⟨r, b, rfl, ⟨ns, hn⟩, hb, h⟩ := h
  refine ⟨_, (pss_cons (ps_if (pt_not (pt_truth (pv 0) (by intro _; rfl))) (pss_one (ps_ret (pe_int))) pss_nil)
      (pss_one (ps_ret (pe_op op_mod (pe_callTy call_int1 rfl (T.free _ (by decide +kernel)) (by decide +kernel) (pa_cons (pe_bm0 PySem.F.plainAttrs_list PySem.F.slot_list_pop PySem.F.type_list_pop mt_pop (pv 0)) pa_nil)) (pv 1))))), ?_⟩
  refine ⟨_, rfl, _, .inl ⟨_, SqL.of hn, rfl⟩, ?_⟩
  by_cases e : ns = []
  · subst e
    exact if_t rfl (h 0 H (Int.le_refl _) hb (.refl ⟨[], hn⟩))
  · have e2 : (ns.map V.int).isEmpty = false := by
      cases ns with
      | nil => exact absurd rfl e
      | cons _ _ => rfl
    refine if_f (by rw [e2]; rfl) ?_
    have hlen : ns.length - 1 < ns.length := by
      cases ns with
      | nil => exact absurd rfl e
      | cons _ _ => simp
    have hl : (ns.map V.int)[(ns.map V.int).length - 1]? = some (.int (ns[ns.length - 1]'hlen)) := by
      rw [List.length_map, List.getElem?_map, List.getElem?_eq_getElem hlen]
      rfl
    refine ⟨_, rfl, .inl ⟨rfl, _, SqL.of hn⟩, r, _, _, rfl, rfl, hn, hl, .inl ⟨_, rfl, _, rfl, _, _, rfl, rfl, hb, ?_⟩⟩
    refine h _ _ (Int.emod_nonneg _ (by omega)) (Int.emod_lt_of_pos _ hb) ⟨fun c o q ne => by rw [upd_ne ne]; exact q, ⟨ns.dropLast, ?_⟩⟩
    rw [upd_same, ← List.map_dropLast]
/-! ### number -/
def spNumber : Sp := fun vs H Q _ => ∃ r : Addr, vs = [.ref r] ∧ RowAt H r ∧ ∀ z H', Ok1 z → Ro r H H' → Q (.int z) H'
theorem scNumber : FnScope ["_law_row", "_law_choice"] ["_law_row"] (defScope sNumber) := ⟨rfl, rfl, rfl, by decide +kernel, rfl, by decide +kernel, by decide +kernel⟩
theorem ok_number (T : Txt K mg) : Pr P w K mg base CX0 2 (He.ga K "_law_number") ["_law_row"] spNumber := by
  refine T.f_law_number.pr scNumber (fun _ _ _ _ _ _ us hl => match us, hl with | [_], _ => rfl) (fun vs H Q E h => ?_) (fun cdv A outer s H vs Q E hr h => ?_)
  · obtain ⟨r, rfl, _⟩ := h
    rfl
  obtain ⟨r, rfl, hR, h⟩ := h
  refine ⟨_, (pss_cons (ps_set (i := 1) scNumber.nd rfl (Or.inl rfl) (pe_callP (ok_take T) (hr.mono (by omega)) rfl (T.glo _ (by decide +kernel)) pass0 (pa_cons (pv 0) (pa_cons (pe_int) pa_nil))))
      (pss_cons (ps_if (pt_cmpR op_lt (pv 1) (pe_int) (nomark _)) (pss_one (ps_ret (pe_op op_sub (pe_callP (ok_take T) (hr.mono (by omega)) rfl (T.glo _ (by decide +kernel)) pass0 (pa_cons (pv 0) (pa_cons (pe_int) pa_nil))) (pe_int)))) pss_nil)
      (pss_cons (ps_if (pt_cmpR op_eq (pv 1) (pe_int) (nomark _)) (pss_one (ps_ret (pe_op op_sub (pe_callP (ok_take T) (hr.mono (by omega)) rfl (T.glo _ (by decide +kernel)) pass0 (pa_cons (pv 0) (pa_cons (pe_int) pa_nil))) (pe_int)))) pss_nil)
      (pss_one (ps_ret (pe_ix ix_list (pe_lst (pa_cons (pe_int) (pa_cons (pe_un un_neg pe_int) (pa_cons (pe_int) (pa_cons (pe_int) pa_nil))))) (pe_callP (ok_take T) (hr.mono (by omega)) rfl (T.glo _ (by decide +kernel)) pass0 (pa_cons (pv 0) (pa_cons (pe_int) pa_nil))) (fun _ _ => rfl))))))), ?_⟩
  refine ⟨_, rfl, r, _, rfl, hR, by decide, fun z H1 z0 z1 R1 => ?_⟩
  refine ⟨_, rfl, _, _, rfl, rfl, _, rfl, ?_⟩
  by_cases c1 : z < 9
  · refine if_t (decide_eq_true c1) ⟨_, rfl, r, _, rfl, R1.row, by decide, fun y H2 y0 y1 R2 => ⟨_, _, rfl, rfl, h _ _ ⟨by omega, by omega⟩ (R1.trans R2)⟩⟩
  refine if_f (decide_eq_false c1) ⟨_, rfl, rfl, _, rfl, ?_⟩
  by_cases c2 : z = 9
  · refine if_t (decide_eq_true (congrArg V.int c2)) ⟨_, rfl, r, _, rfl, R1.row, by decide, fun y H2 y0 y1 R2 => ⟨_, _, rfl, rfl, h _ _ ⟨by omega, by omega⟩ (R1.trans R2)⟩⟩
  refine if_f (decide_eq_false fun e => c2 (V.int.inj e)) ?_
  refine ⟨_, rfl, (by show 4 ≤ sizeLine; decide), fun p np => ⟨_, rfl, r, _, rfl, (R1.new np _).row, by decide, fun y H2 y0 y1 R2 => ?_⟩⟩
  have hp := R2.st _ _ upd_same (R1.row.ne np)
  have yy : y = 0 ∨ y = 1 ∨ y = 2 ∨ y = 3 := by omega
  rcases yy with rfl | rfl | rfl | rfl
  · exact ⟨p, _, _, _, rfl, rfl, SqL.of hp, a0, h _ _ ⟨by decide, by decide⟩ ((R1.new np _).trans R2)⟩
  · exact ⟨p, _, _, _, rfl, rfl, SqL.of hp, a1, h _ _ ⟨by decide, by decide⟩ ((R1.new np _).trans R2)⟩
  · exact ⟨p, _, _, _, rfl, rfl, SqL.of hp, a2, h _ _ ⟨by decide, by decide⟩ ((R1.new np _).trans R2)⟩
  · exact ⟨p, _, _, _, rfl, rfl, SqL.of hp, a3, h _ _ ⟨by decide, by decide⟩ ((R1.new np _).trans R2)⟩
/-! ### cells -/
def spCells : Sp := fun vs H Q _ => vs = [] ∧ ∀ a H', Same H H' → CellsAt H' a → Q (.ref a) H'
theorem scCells : FnScope [] [] (defScope sCells) := ⟨rfl, rfl, rfl, by decide +kernel, rfl, by decide +kernel, by decide +kernel⟩
theorem ok_cells (T : Txt K mg) : Pr P w K mg base CX0 1 (He.ga K "_law_cells") [] spCells := by
  refine T.f_law_cells.pr scCells (fun _ _ _ _ _ _ us hl => match us, hl with | [], _ => rfl) (fun vs H Q E h => ?_) (fun cdv A outer s H vs Q E hr h => ?_)
  · obtain ⟨rfl, _⟩ := h
    rfl
  obtain ⟨rfl, h⟩ := h
  refine ⟨_, (pss_one (ps_ret (pe_lst (pa_cons (pe_tup (pa_cons (pe_str) (pa_cons (pe_int) (pa_cons (pe_int) pa_nil)))) (pa_cons (pe_tup (pa_cons (pe_str) (pa_cons (pe_int) (pa_cons (pe_int) pa_nil)))) (pa_cons (pe_tup (pa_cons (pe_str) (pa_cons (pe_int) (pa_cons (pe_un un_neg pe_int) pa_nil)))) pa_nil)))))), ?_⟩
  refine ⟨(by show 3 ≤ sizeLine; decide), fun t1 n1 => ⟨(by show 3 ≤ sizeLine; decide), fun t2 n2 => ⟨_, rfl, (by show 3 ≤ sizeLine; decide), fun t3 n3 => ⟨(by show 3 ≤ sizeLine; decide), fun a na => ?_⟩⟩⟩⟩
  have e1 : (upd H t1 (.tup [.str "a", .int 2, .int 3])) t1 = some (.tup [.str "a", .int 2, .int 3]) := upd_same
  have s2 := sm_upd n2 (.tup [.str "b", .int 1, .int 0])
  have s3 := sm_upd n3 (.tup [.str "c", .int 3, .int (-1)])
  have s4 := sm_upd na (.lst [.ref t1, .ref t2, .ref t3])
  exact h a _ ((((sm_upd n1 _).trans s2).trans s3).trans s4) ⟨t1, t2, t3, upd_same, s4 _ _ (s3 _ _ (s2 _ _ e1)), s4 _ _ (s3 _ _ upd_same), s4 _ _ upd_same⟩
theorem CellsAt.wo {H : Hp} {a r : Addr} (c : CellsAt H a) (h : RowAt H r) : CellsAt (wo r H) a := by
  obtain ⟨t1, t2, t3, h0, h1, h2, h3⟩ := c
  obtain ⟨ns, hr⟩ := h
  have tn : ∀ {t : Addr} {xs : List V}, H t = some (.tup xs) → K13.wo r H t = some (.tup xs) := fun e => wo_of e (ne_of e hr (by intro z; cases z))
  refine ⟨t1, t2, t3, wo_of h0 (ne_of h0 hr fun z => ?_), tn h1, tn h2, tn h3⟩
  cases ns with
  | nil => cases z
  | cons n ns => cases z
/-- the names of the locals -/
def XyAt (H : Hp) (a : Addr) : Prop := H a = some (.lst [.str "x", .str "y"])
theorem XyAt.wo {H : Hp} {a r : Addr} (c : XyAt H a) (h : RowAt H r) : XyAt (wo r H) a := by
  obtain ⟨ns, hr⟩ := h
  refine wo_of c (ne_of c hr fun z => ?_)
  cases ns with
  | nil => cases z
  | cons n ns => cases z
/-! ### expressions -/
def spExp : Nat → Sp
  | 0 => fun _ _ _ _ => False
  | n + 1 => fun vs H Q _ => ∃ r ac nm : Addr, vs = [.ref r, .int n, .ref ac, .ref nm] ∧ RowAt H r ∧ CellsAt (wo r H) ac ∧ XyAt (wo r H) nm ∧ ∀ e v H', Ro r H H' → (∀ av, Old H av → ExAt (wx (r :: av) H') e v) → exD e ≤ n → Q v H'
theorem scExp : FnScope ["_law_row", "_law_depth", "_law_cells_here", "_law_names", "_law_choice", "_law_kinds", "_law_kind", "_law_first"] ["_law_row", "_law_depth", "_law_cells_here", "_law_names"] (defScope sExp) := ⟨rfl, rfl, rfl, by decide +kernel, rfl, by decide +kernel, by decide +kernel⟩
theorem scIndex : FnScope ["_law_row", "_law_depth", "_law_cells_here", "_law_names"] ["_law_row", "_law_depth", "_law_cells_here", "_law_names"] (defScope sIndex) := ⟨rfl, rfl, rfl, by decide +kernel, rfl, by decide +kernel, by decide +kernel⟩
def bkN10 : Nat → Bk
  | 0 => .plus | 1 => .minus | 2 => .times | 3 => .over | 4 => .rest | 5 => .less | 6 => .atmost | 7 => .same | 8 => .and | _ => .or
abbrev kinds10 : List V := [.str "plus", .str "minus", .str "times", .str "over", .str "rest", .str "less", .str "atmost", .str "same", .str "and", .str "or"]
theorem kinds_at {z : Int} (h0 : 0 ≤ z) (h1 : z < 10) : ∃ k, atI kinds10 z = some (.str (bkS k)) := by
  refine ⟨bkN10 z.toNat, ?_⟩
  have e : z = (z.toNat : Nat) := by omega
  rw [e]
  have hl : z.toNat < 10 := by omega
  generalize z.toNat = n at hl
  match n, hl with
  | 0, _ => exact atI_nat rfl
  | 1, _ => exact atI_nat rfl
  | 2, _ => exact atI_nat rfl
  | 3, _ => exact atI_nat rfl
  | 4, _ => exact atI_nat rfl
  | 5, _ => exact atI_nat rfl
  | 6, _ => exact atI_nat rfl
  | 7, _ => exact atI_nat rfl
  | 8, _ => exact atI_nat rfl
  | 9, _ => exact atI_nat rfl
  | n + 10, h => exact absurd h (by omega)
theorem xy_at {z : Int} (h0 : 0 ≤ z) (h1 : z < 2) : ∃ l, atI [V.str "x", .str "y"] z = some (.str (lcS l)) := by
  have yy : z = 0 ∨ z = 1 := by omega
  rcases yy with rfl | rfl
  · exact ⟨.x, a0⟩
  · exact ⟨.y, a1⟩
theorem cell_at {H : Hp} {ac : Addr} (c : CellsAt H ac) {z : Int} (h0 : 0 ≤ z) (h1 : z < 3) : ∃ xs t d s v, H ac = some (.lst xs) ∧ atI xs z = some (.ref t) ∧ H t = some (.tup [.str (nmS d), s, v]) := by
  obtain ⟨t1, t2, t3, c0, c1, c2, c3⟩ := c
  have yy : z = 0 ∨ z = 1 ∨ z = 2 := by omega
  rcases yy with rfl | rfl | rfl
  · exact ⟨_, t1, .a, _, _, c0, a0, c1⟩
  · exact ⟨_, t2, .b, _, _, c0, a1, c2⟩
  · exact ⟨_, t3, .c, _, _, c0, a2, c3⟩
theorem cells_len {H : Hp} {ac : Addr} (c : CellsAt H ac) : ∃ xs, H ac = some (.lst xs) ∧ xs.length = 3 := by
  obtain ⟨t1, t2, t3, c0, _⟩ := c
  exact ⟨_, c0, rfl⟩
theorem ok_exp_step (T : Txt K mg) {n j : Nat} (hj : 2 ≤ j) (IH : Pr P w K mg base CX0 j (He.ga K "_law_exp") ["_law_row", "_law_depth", "_law_cells_here", "_law_names"] (spExp n)) (IHi : Pr P w K mg base CX0 j (He.ga K "_law_index") ["_law_row", "_law_depth", "_law_cells_here", "_law_names"] (spExp n)) :
    Pr P w K mg base CX0 (j + 1) (He.ga K "_law_exp") ["_law_row", "_law_depth", "_law_cells_here", "_law_names"] (spExp (n + 1)) := by
  refine T.f_law_exp.pr scExp (fun _ _ _ _ _ _ us hl => match us, hl with | [_, _, _, _], _ => rfl) (fun vs H Q E h => ?_) (fun cdv A outer s H vs Q E hr h => ?_)
  · obtain ⟨r, ac, nm, rfl, _⟩ := h
    rfl
  obtain ⟨r, ac, nm, rfl, hR, hc, hx, h⟩ := h
  refine ⟨_, (pss_cons (ps_set (i := 4) scExp.nd rfl (Or.inl rfl) (pe_callP (ok_take T) (hr.mono (by omega)) rfl (T.glo _ (by decide +kernel)) pass0 (pa_cons (pv 0) (pa_cons (pe_int) pa_nil))))
      (pss_cons (ps_if (PW.pt (pw_or (pt_cmpR op_eq (pv 1) (pe_int) (nomark _)) (pw_or1 (pt_cmpR op_lt (pv 4) (pe_int) (nomark _))))) (pss_cons (ps_if (PW.pt (pw_and (pt_cmpR op_eq (pe_op op_mod (pe_callTy call_int1 rfl (T.free _ (by decide +kernel)) (by decide +kernel) (pa_cons (pv 4) pa_nil)) (pe_int)) (pe_int) (nomark _)) (pw_and1 (pt_truth (pv 3) (by intro _; rfl))))) (pss_one (ps_ret (pe_tup (pa_cons (pe_str) (pa_cons (pe_ix ix_list (pv 3) (pe_callP (ok_take T) (hr.mono (by omega)) rfl (T.glo _ (by decide +kernel)) pass0 (pa_cons (pv 0) (pa_cons (pe_callB call_len_seq (by rfl) (T.free _ (by decide +kernel)) PySem.boot_len (pa_cons (pv 3) pa_nil)) pa_nil))) (fun _ _ => rfl)) pa_nil))))) pss_nil)
      (pss_one (ps_ret (pe_tup (pa_cons (pe_str) (pa_cons (pe_callP (ok_number T) (hr.mono (by omega)) rfl (T.glo _ (by decide +kernel)) pass0 (pa_cons (pv 0) pa_nil)) pa_nil)))))) pss_nil)
      (pss_cons (ps_if (PW.pt (pw_and (pt_cmpR op_lt (pv 4) (pe_int) (nomark _)) (pw_and1 (pt_truth (pv 2) (by intro _; rfl))))) (pss_one (ps_ret (pe_tup (pa_cons (pe_str) (pa_cons (pe_ix ix_tup (pe_ix ix_list (pv 2) (pe_callP (ok_take T) (hr.mono (by omega)) rfl (T.glo _ (by decide +kernel)) pass0 (pa_cons (pv 0) (pa_cons (pe_callB call_len_seq (by rfl) (T.free _ (by decide +kernel)) PySem.boot_len (pa_cons (pv 2) pa_nil)) pa_nil))) (fun _ _ => rfl)) (pe_int) (fun _ _ => rfl)) (pa_cons (pe_callP (IHi) hr rfl (T.glo _ (by decide +kernel)) pass0 (pa_cons (pv 0) (pa_cons (pe_op op_sub (pv 1) (pe_int)) (pa_cons (pv 2) (pa_cons (pv 3) pa_nil))))) pa_nil)))))) pss_nil)
      (pss_cons (ps_if (pt_cmpR op_lt (pv 4) (pe_int) (nomark _)) (pss_one (ps_ret (pe_tup (pa_cons (pe_ix ix_list (pe_lst (pa_cons (pe_str) (pa_cons (pe_str) pa_nil))) (pe_op op_sub (pv 4) (pe_int)) (fun _ _ => rfl)) (pa_cons (pe_callP (IH) hr rfl (T.glo _ (by decide +kernel)) pass0 (pa_cons (pv 0) (pa_cons (pe_op op_sub (pv 1) (pe_int)) (pa_cons (pv 2) (pa_cons (pv 3) pa_nil))))) pa_nil))))) pss_nil)
      (pss_cons (ps_set (i := 5) scExp.nd rfl (Or.inl rfl) (pe_lst (pa_cons (pe_str) (pa_cons (pe_str) (pa_cons (pe_str) (pa_cons (pe_str) (pa_cons (pe_str) (pa_cons (pe_str) (pa_cons (pe_str) (pa_cons (pe_str) (pa_cons (pe_str) (pa_cons (pe_str) pa_nil))))))))))))
      (pss_cons (ps_set (i := 6) scExp.nd rfl (Or.inl rfl) (pe_ix ix_list (pv 5) (pe_callP (ok_take T) (hr.mono (by omega)) rfl (T.glo _ (by decide +kernel)) pass0 (pa_cons (pv 0) (pa_cons (pe_int) pa_nil))) (fun _ _ => rfl)))
      (pss_cons (ps_set (i := 7) scExp.nd rfl (Or.inl rfl) (pe_callP (IH) hr rfl (T.glo _ (by decide +kernel)) pass0 (pa_cons (pv 0) (pa_cons (pe_op op_sub (pv 1) (pe_int)) (pa_cons (pv 2) (pa_cons (pv 3) pa_nil))))))
      (pss_one (ps_ret (pe_tup (pa_cons (pv 6) (pa_cons (pv 7) (pa_cons (pe_callP (IH) hr rfl (T.glo _ (by decide +kernel)) pass0 (pa_cons (pv 0) (pa_cons (pe_op op_sub (pv 1) (pe_int)) (pa_cons (pv 2) (pa_cons (pv 3) pa_nil))))) pa_nil))))))))))))), ?_⟩
  -- a new tuple of parts
  have fin : ∀ {H1 : Hp} {l : List V} (e : Ex), Ro r H H1 → (∀ av, Old H av → ∀ p G, Same (wx (r :: av) H1) G → G p = some (.tup l) → ExAt G e (.ref p)) → exD e ≤ n → ∀ p, H1 p = none → Q (.ref p) (upd H1 p (.tup l)) := fun {H1 l} e R1 k d p np =>
    h e _ _ (R1.new np _) (fun av ho => k av ho p _ (Ro.sameX (.of R1.row (sm_upd np _)) av) (wx_new R1.row (ho.mono R1) np)) d
  obtain ⟨t1, t2, t3, q0, q1, q2, q3⟩ := id hc
  refine ⟨_, rfl, r, _, rfl, hR, by decide, fun ch H1 c0 c1 R1 => ?_⟩
  -- what stands at a heap behind
  have xyA : ∀ {H2 : Hp}, Ro r H H2 → H2 nm = some (.lst [.str "x", .str "y"]) := fun R => (wo_some (R.same _ _ hx)).2
  have ceA : ∀ {H2 : Hp}, Ro r H H2 → H2 ac = some (.lst [.ref t1, .ref t2, .ref t3]) := fun R => (wo_some (R.same _ _ q0)).2
  have three : 3 ≤ sizeLine := by decide
  cases n with
  | zero =>
    refine ⟨_, rfl, rfl, _, rfl, if_t (by decide) (if_t rfl ?_)⟩
    exact ⟨_, rfl, .inl ⟨_, rfl, _, _, rfl, rfl, (by show (0 : Int) < 2; decide), rfl, _, rfl, n0
      (fun _ => ⟨_, rfl, _, .inl ⟨_, SqL.of (xyA R1), rfl⟩, if_t rfl ⟨_, rfl, _, rfl, _, rfl, nm, _, rfl, .inl (SqL.of (xyA R1)), r, _, rfl, R1.row, by decide, fun y H2 y0 y1 R2 => (xy_at y0 y1).elim fun l el => ⟨nm, _, _, _, rfl, rfl, SqL.of (xyA (R1.trans R2)), el, two_line, fin (.loc l) (R1.trans R2) (fun av ho p G s e => ⟨p, rfl, e⟩) (Nat.zero_le _)⟩⟩⟩)
      (fun _ => if_f rfl ⟨_, rfl, r, rfl, R1.row, fun z H2 oz R2 => ⟨two_line, fin (.num z) (R1.trans R2) (fun av ho p G s e => ⟨p, rfl, e⟩) (Nat.zero_le _)⟩⟩)⟩⟩
  | succ m =>
    have pm : (((m + 1 : Nat) : Int) - 1) = (m : Int) := by omega
    have again : ∀ {H2 : Hp} {Q' : VK}, Ro r H H2 → (∀ e v H3, Ro r H2 H3 → (∀ av, Old H2 av → ExAt (wx (r :: av) H3) e v) → exD e ≤ m → Q' v H3) → spExp (m + 1) [.ref r, .int (((m + 1 : Nat) : Int) - 1), .ref ac, .ref nm] H2 Q' E0 := fun R k => ⟨r, ac, nm, by rw [pm], R.row, hc.mono R.same, R.same _ _ hx, k⟩
    have cellA : ∀ {y : Int}, 0 ≤ y → y < 3 → ∃ t d s v, atI [V.ref t1, .ref t2, .ref t3] y = some (.ref t) ∧ wo r H t = some (.tup [.str (nmS d), s, v]) := fun {y} y0 y1 => by
      have yy : y = 0 ∨ y = 1 ∨ y = 2 := by omega
      rcases yy with rfl | rfl | rfl
      · exact ⟨t1, .a, _, _, a0, q1⟩
      · exact ⟨t2, .b, _, _, a1, q2⟩
      · exact ⟨t3, .c, _, _, a2, q3⟩
    refine ⟨_, rfl, rfl, _, rfl, if_f (decide_eq_false fun e => by have := V.int.inj e; omega) ⟨_, rfl, _, _, rfl, rfl, _, rfl, ?_⟩⟩
    by_cases k5 : ch < 5
    · refine if_t (decide_eq_true k5) ?_
      exact ⟨_, rfl, .inl ⟨_, rfl, _, _, rfl, rfl, (by show (0 : Int) < 2; decide), rfl, _, rfl, n0
      (fun _ => ⟨_, rfl, _, .inl ⟨_, SqL.of (xyA R1), rfl⟩, if_t rfl ⟨_, rfl, _, rfl, _, rfl, nm, _, rfl, .inl (SqL.of (xyA R1)), r, _, rfl, R1.row, by decide, fun y H2 y0 y1 R2 => (xy_at y0 y1).elim fun l el => ⟨nm, _, _, _, rfl, rfl, SqL.of (xyA (R1.trans R2)), el, two_line, fin (.loc l) (R1.trans R2) (fun av ho p G s e => ⟨p, rfl, e⟩) (Nat.zero_le _)⟩⟩⟩)
      (fun _ => if_f rfl ⟨_, rfl, r, rfl, R1.row, fun z H2 oz R2 => ⟨two_line, fin (.num z) (R1.trans R2) (fun av ho p G s e => ⟨p, rfl, e⟩) (Nat.zero_le _)⟩⟩)⟩⟩
    refine if_f (decide_eq_false k5) ⟨_, rfl, _, _, rfl, rfl, _, rfl, ?_⟩
    by_cases k8 : ch < 8
    · refine if_t (decide_eq_true k8) ⟨_, rfl, _, .inl ⟨_, SqL.of (ceA R1), rfl⟩, if_t rfl ?_⟩
      refine ⟨_, rfl, _, rfl, _, rfl, ac, _, rfl, .inl (SqL.of (ceA R1)), r, _, rfl, R1.row, (by show (0 : Int) < 3; decide), fun y H2 y0 y1 R2 => ?_⟩
      obtain ⟨t, d, s, v, ea, et⟩ := cellA y0 y1
      have R12 := R1.trans R2
      refine ⟨ac, _, _, _, rfl, rfl, SqL.of (ceA R12), ea, t, _, _, _, rfl, rfl, SqT.of (wo_some (R12.same _ _ et)).2, a0, _, rfl, _, rfl, _, _, rfl, rfl, _, rfl, _, rfl, again R12 fun e v H3 R3 ae de => ?_⟩
      exact ⟨three, fin (.cell d e) (R12.trans R3) (fun av ho p G s e => ⟨p, v, rfl, e, (ae av (ho.mono R12)).mono s⟩) (Nat.succ_le_succ de)⟩
    refine if_f (decide_eq_false k8) (if_f rfl ⟨_, rfl, _, _, rfl, rfl, _, rfl, ?_⟩)
    by_cases k10 : ch < 10
    · refine if_t (decide_eq_true k10) ⟨two_line, fun pl npl => ⟨_, rfl, _, _, rfl, rfl, ?_⟩⟩
      have R2 := R1.new npl (.lst [.str "not", .str "negative"])
      have yy : ch = 8 ∨ ch = 9 := by omega
      rcases yy with rfl | rfl
      · refine ⟨pl, _, _, _, rfl, rfl, SqL.of upd_same, a0, _, rfl, _, rfl, _, _, rfl, rfl, _, rfl, _, rfl, again R2 fun e v H3 R3 ae de => ?_⟩
        exact ⟨two_line, fin (.no e) (R2.trans R3) (fun av ho p G s e => ⟨p, v, rfl, e, (ae av (ho.mono R2)).mono s⟩) (Nat.succ_le_succ de)⟩
      · refine ⟨pl, _, _, _, rfl, rfl, SqL.of upd_same, a1, _, rfl, _, rfl, _, _, rfl, rfl, _, rfl, _, rfl, again R2 fun e v H3 R3 ae de => ?_⟩
        exact ⟨two_line, fin (.neg e) (R2.trans R3) (fun av ho p G s e => ⟨p, v, rfl, e, (ae av (ho.mono R2)).mono s⟩) (Nat.succ_le_succ de)⟩
    refine if_f (decide_eq_false k10) ⟨(by show 10 ≤ sizeLine; decide), fun pk npk => ?_⟩
    have R2 := R1.new npk (.lst kinds10)
    refine ⟨_, rfl, _, rfl, r, _, rfl, R2.row, by decide, fun y H2 y0 y1 R3 => ?_⟩
    obtain ⟨k, ek⟩ := kinds_at y0 y1
    have R23 := R2.trans R3
    refine ⟨pk, _, _, _, rfl, rfl, SqL.of (R3.st _ _ upd_same (R1.row.ne npk)), ek, ?_⟩
    refine ⟨_, rfl, _, rfl, _, _, rfl, rfl, _, rfl, _, rfl, again R23 fun e1 v1 H3 R4 ae1 de1 => ?_⟩
    refine ⟨_, rfl, _, rfl, _, rfl, _, rfl, _, _, rfl, rfl, _, rfl, _, rfl, again (R23.trans R4) fun e2 v2 H4 R5 ae2 de2 => ?_⟩
    exact ⟨three, fin (.bin k e1 e2) ((R23.trans R4).trans R5) (fun av ho p G s e => ⟨p, v1, v2, rfl, e, ((ae1 av (ho.mono R23)).mono (R5.sameX av)).mono s, (ae2 av (ho.mono (R23.trans R4))).mono s⟩) (Nat.succ_le_succ (Nat.max_le.mpr ⟨de1, de2⟩))⟩
theorem ok_index_step (T : Txt K mg) {n j : Nat} (hj : 2 ≤ j) (IH : Pr P w K mg base CX0 j (He.ga K "_law_exp") ["_law_row", "_law_depth", "_law_cells_here", "_law_names"] (spExp n)) :
    Pr P w K mg base CX0 (j + 1) (He.ga K "_law_index") ["_law_row", "_law_depth", "_law_cells_here", "_law_names"] (spExp n) := by
  cases n with
  | zero => exact none2 T.f_law_index (fun _ _ _ _ _ _ us hl => match us, hl with | [_, _, _, _], _ => rfl) fun _ _ _ _ z => z
  | succ n =>
  refine T.f_law_index.pr scIndex (fun _ _ _ _ _ _ us hl => match us, hl with | [_, _, _, _], _ => rfl) (fun vs H Q E h => ?_) (fun cdv A outer s H vs Q E hr h => ?_)
  · obtain ⟨r, ac, nm, rfl, _⟩ := h
    rfl
  obtain ⟨r, ac, nm, rfl, hR, hc, hx, h⟩ := h
  refine ⟨_, (pss_cons (ps_if (pt_cmpR op_gt (pe_callP (ok_take T) (hr.mono (by omega)) rfl (T.glo _ (by decide +kernel)) pass0 (pa_cons (pv 0) (pa_cons (pe_int) pa_nil))) (pe_int) (nomark _)) (pss_one (ps_ret (pe_tup (pa_cons (pe_str) (pa_cons (pe_callP (ok_take T) (hr.mono (by omega)) rfl (T.glo _ (by decide +kernel)) pass0 (pa_cons (pv 0) (pa_cons (pe_int) pa_nil))) pa_nil))))) pss_nil)
      (pss_one (ps_ret (pe_callP (IH) hr rfl (T.glo _ (by decide +kernel)) pass0 (pa_cons (pv 0) (pa_cons (pv 1) (pa_cons (pv 2) (pa_cons (pv 3) pa_nil)))))))), ?_⟩
  refine ⟨_, rfl, r, _, rfl, hR, by decide, fun y H1 y0 y1 R1 => ⟨_, _, rfl, rfl, _, rfl, ?_⟩⟩
  by_cases c : 0 < y
  · refine if_t (decide_eq_true c) ⟨_, rfl, r, _, rfl, R1.row, by decide, fun z H2 z0 z1 R2 => ⟨two_line, fun p np => ?_⟩⟩
    exact h (.num z) _ _ ((R1.trans R2).new np _) (fun av ho => ⟨p, rfl, wx_new R2.row (ho.mono (R1.trans R2)) np⟩) (Nat.zero_le _)
  · refine if_f (decide_eq_false c) ⟨_, rfl, _, rfl, _, rfl, _, rfl, r, ac, nm, rfl, R1.row, hc.mono R1.same, R1.same _ _ hx, fun e v H2 R2 ae de => h e v H2 (R1.trans R2) (fun av ho => ae av (ho.mono R1)) de⟩
/-- _law_exp, by its depth -/
theorem ok_exp (T : Txt K mg) : ∀ n : Nat, Pr P w K mg base CX0 (2 + 2 * n) (He.ga K "_law_exp") ["_law_row", "_law_depth", "_law_cells_here", "_law_names"] (spExp n)
  | 0 => none2 T.f_law_exp (fun _ _ _ _ _ _ us hl => match us, hl with | [_, _, _, _], _ => rfl) fun _ _ _ _ z => z
  | n + 1 => (ok_exp_step T (by omega) ((ok_exp T n).mono (Nat.le_succ _)) (ok_index_step T (by omega) (ok_exp T n))).mono (by omega)
theorem ok_index (T : Txt K mg) (n : Nat) : Pr P w K mg base CX0 (3 + 2 * n) (He.ga K "_law_index") ["_law_row", "_law_depth", "_law_cells_here", "_law_names"] (spExp n) := (ok_index_step T (by omega) (ok_exp T n)).mono (by omega)
end
end K13
set_option Elab.async false
set_option linter.all false
set_option maxRecDepth 100000
set_option maxHeartbeats 4000000
/-! K13G2: the law's makers (printed by gen_g2.py): _law_numbers, _law_memory, _law_body, _law_statement. -/
namespace K13
open PySem PySem.Spec PyProof.Rows L2
theorem ps_weak {X : Cx} {st : Stmt} {t t' : TS} (h : PS X st t) (k : ∀ D σ H, t' D σ H → t D σ H) : PS X st t' := ⟨fun pins s σ H D I q => h.run pins s σ H D I (k D σ H q)⟩
section
variable {P : Program} {w : World} {K : PySem.W.Frag} {mg : Str → Option Value} {base : Heap}
/-! ### the row -/
def RowL (H : Hp) (r : Addr) (n : Nat) : Prop := ∃ ns : List Int, H r = some (.lst (ns.map V.int)) ∧ ns.length ≤ n
theorem RowL.app {H : Hp} {r : Addr} {ns : List Int} {n : Nat} {z : Int} (hl : ns.length ≤ n) : RowL (upd H r (.lst (ns.map V.int ++ [.int z]))) r (n + 1) :=
  ⟨ns ++ [z], by rw [upd_same, List.map_append]; rfl, by rw [List.length_append]; show ns.length + 1 ≤ n + 1; omega⟩
def spNumbers (K : PySem.W.Frag) : Sp := fun vs H Q _ => ∃ (a : Addr) (c : Int) (ns : List Int), vs = [.ref a, .int c] ∧ SqL K H a (ns.map V.int) ∧ ns.length ≤ 63 ∧ 0 ≤ c ∧ c ≤ 1000 ∧ ∀ r H', Same H H' → RowAt H' r → Q (.ref r) H'
theorem scNumbers : FnScope ["_law_script", "_law_count", "_law_row", "_law_base", "_law_cell", "_law_rest", "_law_k"] ["_law_script", "_law_count"] (defScope sNumbers) := ⟨rfl, rfl, rfl, by decide +kernel, rfl, by decide +kernel, by decide +kernel⟩
theorem cutV_ints {ns : List Int} {lo hi : Option Int} {y : V} (h : y ∈ cutV (ns.map V.int) lo hi) : ∃ z, y = .int z := by
  unfold cutV at h
  obtain ⟨z, _, e⟩ := List.mem_map.mp (List.mem_of_mem_drop (List.mem_of_mem_take h))
  exact ⟨z, e.symm⟩
theorem ok_numbers (T : Txt K mg) : Pr P w K mg base CX0 2 (He.ga K "_law_numbers") ["_law_script", "_law_count"] (spNumbers K) := by
  refine T.f_law_numbers.pr scNumbers (fun _ _ _ _ _ _ us hl => match us, hl with | [_, _], _ => rfl) (fun vs H Q E h => ?_) (fun cdv A outer s H vs Q E hr h => ?_)
  · obtain ⟨a, c, ns, rfl, _⟩ := h
    rfl
  obtain ⟨a, c, ns, rfl, ha, hl, c0, c1, h⟩ := h
  refine ⟨_, (pss_cons (ps_set (i := 2) scNumbers.nd rfl (Or.inl rfl) (pe_lst pa_nil))
      (pss_cons (ps_set (i := 3) scNumbers.nd rfl (Or.inl rfl) (pe_int))
      (pss_cons (ps_for PassesOwn.never rfl (pi_list (pe_slice sl_list (pv 0) po_none (po_some pe_int))) (pg_name (i := 4) scNumbers.nd rfl (Or.inl rfl)) (pss_cons (ps_set (i := 3) scNumbers.nd rfl (Or.inl rfl) (pe_op op_add (pv 3) (pv 4)))
      (pss_one (ps_if (pt_cmpR op_ge (pv 4) (pe_int) (nomark _)) (pss_cons (ps_set (i := 5) scNumbers.nd rfl (Or.inl rfl) (pv 4))
      (pss_one (ps_for PassesOwn.never rfl (pi_range1 rfl (T.free _ (by decide +kernel)) (pa_cons (pe_int) pa_nil)) (pg_name (i := 6) scNumbers.nd rfl (Or.inl rfl)) (pss_cons (ps_expr (pe_bm PySem.F.plainAttrs_list PySem.F.slot_list_append PySem.F.type_list_append mt_append (pv 2) (pa_cons (pe_op op_mod (pe_callTy call_int1 rfl (T.free _ (by decide +kernel)) (by decide +kernel) (pa_cons (pv 5) pa_nil)) (pe_int)) pa_nil)))
      (pss_cons (ps_set (i := 5) scNumbers.nd rfl (Or.inl rfl) (pe_op op_fdiv (pv 5) (pe_int)))
      (pss_one (ps_if (pt_cmpR op_eq (pv 5) (pe_int) (nomark _)) (pss_one (ps_break)) pss_nil))))))) (pss_one (ps_expr (pe_bm PySem.F.plainAttrs_list PySem.F.slot_list_append PySem.F.type_list_append mt_append (pv 2) (pa_cons (pe_callP (ok_mix T) (hr.mono (by omega)) rfl (T.glo _ (by decide +kernel)) pass0 (pa_cons (pe_callP (ok_mix T) (hr.mono (by omega)) rfl (T.glo _ (by decide +kernel)) pass0 (pa_cons (pv 4) (pa_cons (pe_int) pa_nil))) (pa_cons (pe_int) pa_nil))) pa_nil))))))))
      (pss_cons (ps_for PassesOwn.never rfl (pi_range1 rfl (T.free _ (by decide +kernel)) (pa_cons (pv 1) pa_nil)) (pg_name (i := 6) scNumbers.nd rfl (Or.inl rfl)) (pss_one (ps_expr (pe_bm PySem.F.plainAttrs_list PySem.F.slot_list_append PySem.F.type_list_append mt_append (pv 2) (pa_cons (pe_callP (ok_mix T) (hr.mono (by omega)) rfl (T.glo _ (by decide +kernel)) pass0 (pa_cons (pe_callP (ok_mix T) (hr.mono (by omega)) rfl (T.glo _ (by decide +kernel)) pass0 (pa_cons (pe_op op_add (pv 3) (pe_op op_mul (pe_int) (pv 6))) (pa_cons (pe_op op_add (pe_int) (pv 6)) pa_nil))) (pa_cons (pe_int) pa_nil))) pa_nil)))))
      (pss_cons (ps_expr (pe_bm0 PySem.F.plainAttrs_list PySem.F.slot_list_reverse PySem.F.type_list_reverse mt_reverse (pv 2)))
      (pss_one (ps_ret (pv 2)))))))), ?_⟩
  refine ⟨(by show 0 ≤ sizeLine; decide), fun r nr => ?_⟩
  have s1 := sm_upd nr (.lst [])
  refine ⟨_, rfl, 63, rfl, a, _, rfl, s1.seq ha, fun p np => ⟨p, rfl, ⟨_, SqL.of upd_same⟩, ?_⟩⟩
  have e0 : upd (upd H r (.lst [])) p (.lst (cutV (ns.map V.int) none (some 63))) r = some (.lst (([] : List Int).map V.int)) := sm_upd np _ _ _ upd_same
  have hp : r ≠ p := ne_of_none upd_same np
  have hlen : (cutV (ns.map V.int) none (some 63)).length ≤ 63 := Nat.le_trans (cutV_length _ _ _) (by rw [List.length_map]; exact hl)
  -- all that stood before, at a heap behind
  refine for_list (K := K) (a := p) (xs := cutV (ns.map V.int) none (some 63)) (fun i σ H' => ∃ (b : Int) (v4 v5 v6 : Option V), σ = [some (.ref a), some (.int c), some (.ref r), some (.int b), v4, v5, v6] ∧ Same H H' ∧ H' p = some (.lst (cutV (ns.map V.int) none (some 63))) ∧ RowL H' r (60 * i))
    ⟨0, none, none, none, rfl, s1.trans (sm_upd np _), upd_same, [], e0, Nat.zero_le _⟩ (fun i σ H' _ e => by obtain ⟨_, _, _, _, _, _, e, _⟩ := e; exact SqL.of e) ?_ ?_
  · rintro i y σ H' hi ⟨b, v4, v5, v6, rfl, sH, hp2, ns2, hr2, l2⟩
    obtain ⟨z, rfl⟩ := cutV_ints (List.mem_of_getElem? hi)
    have il : i < 63 := Nat.lt_of_lt_of_le (List.getElem?_eq_some_iff.mp hi).1 hlen
    refine ⟨_, rfl, _, rfl, _, _, rfl, rfl, _, rfl, _, _, rfl, rfl, _, rfl, ?_⟩
    by_cases cg : (1000000000000000000 : Int) ≤ z
    · refine if_t (decide_eq_true cg) ⟨_, rfl, 60, rfl, by decide, by decide, for_range (lo := 0) (n := 60) (fun j σ H' => ∃ (rest : Int) (v6 : Option V), σ = [some (.ref a), some (.int c), some (.ref r), some (.int (b + z)), some (.int z), some (.int rest), v6] ∧ Same H H' ∧ H' p = some (.lst (cutV (ns.map V.int) none (some 63))) ∧ RowL H' r (60 * i + j))
        ⟨z, v6, rfl, sH, hp2, ns2, hr2, l2⟩ ?_ ?_⟩
      · rintro j σ H2 hj ⟨rest, v6', rfl, sH2, hp3, ns3, hr3, l3⟩
        refine ⟨_, rfl, .inl ⟨rfl, _, SqL.of hr3⟩, _, rfl, .inl ⟨_, rfl, _, _, rfl, rfl, (by show (0 : Int) < 840; decide), r, _, _, rfl, rfl, hr3, by rw [List.length_map]; exact small_line (by omega), ?_⟩⟩
        refine ⟨_, rfl, _, _, rfl, rfl, ⟨by decide, by decide⟩, _, rfl, rfl, _, rfl, ?_⟩
        have q1 : Same H (upd H2 r (.lst (ns3.map V.int ++ [.int (rest % 840)]))) := sm_put sH2 nr _
        have q2 : (upd H2 r (.lst (ns3.map V.int ++ [.int (rest % 840)]))) p = some (.lst (cutV (ns.map V.int) none (some 63))) := (upd_ne (Ne.symm hp)).trans hp3
        obtain ⟨ns4, hr4, l4⟩ := RowL.app (H := H2) (r := r) (z := rest % 840) l3
        refine n0 (fun _ => ?_) fun _ => ?_
        · exact ⟨_, _, _, _, rfl, q1, q2, ns4, hr4, by omega⟩
        · exact ⟨_, _, rfl, q1, q2, ns4, hr4, by omega⟩
      · rintro σ H2 ⟨rest, v6', rfl, sH2, hp3, ns3, hr3, l3⟩
        exact ⟨_, _, _, _, rfl, sH2, hp3, ns3, hr3, by omega⟩
    · refine if_f (decide_eq_false cg) ⟨_, rfl, .inl ⟨rfl, _, SqL.of hr2⟩, _, rfl, _, _, rfl, fun z1 => ⟨_, _, rfl, fun z2 => ⟨r, _, _, rfl, rfl, hr2, by rw [List.length_map]; exact small_line (by omega), ?_⟩⟩⟩
      obtain ⟨ns4, hr4, l4⟩ := RowL.app (H := H') (r := r) (z := z2) l2
      exact ⟨_, _, _, _, rfl, sm_put sH nr _, (upd_ne (Ne.symm hp)).trans hp2, ns4, hr4, by omega⟩
  · rintro σ H' ⟨b, v4, v5, v6, rfl, sH, hp2, ns2, hr2, l2⟩
    have l3 : ns2.length ≤ 3780 := by omega
    refine ⟨_, rfl, c, rfl, by omega, by omega, for_range (lo := 0) (n := c.toNat) (fun j σ H' => ∃ (v4 v5 v6 : Option V), σ = [some (.ref a), some (.int c), some (.ref r), some (.int b), v4, v5, v6] ∧ Same H H' ∧ RowL H' r (3780 + j)) ⟨_, _, _, rfl, sH, ns2, hr2, l3⟩ ?_ ?_⟩
    · rintro j σ H2 hj ⟨w4, w5, w6, rfl, sH2, ns3, hr3, l4⟩
      refine ⟨_, rfl, .inl ⟨rfl, _, SqL.of hr3⟩, _, rfl, _, rfl, _, _, rfl, rfl, mul_l (by decide) (by decide), _, _, rfl, rfl, _, rfl, _, _, rfl, rfl, _, _, rfl, fun z1 => ⟨_, _, rfl, fun z2 => ⟨r, _, _, rfl, rfl, hr3, by rw [List.length_map]; exact small_line (by omega), ?_⟩⟩⟩
      obtain ⟨ns4, hr4, l5⟩ := RowL.app (H := H2) (r := r) (z := z2) l4
      exact ⟨_, _, _, rfl, sm_put sH2 nr _, ns4, hr4, by omega⟩
    · rintro σ H2 ⟨w4, w5, w6, rfl, sH2, ns3, hr3, l4⟩
      refine ⟨_, rfl, .inl ⟨rfl, _, SqL.of hr3⟩, r, _, rfl, rfl, hr3, _, rfl, ?_⟩
      refine h r _ (sm_put sH2 nr _) ⟨ns3.reverse, ?_⟩
      rw [upd_same, List.map_reverse]
/-! ### a memory -/
def spMemory : Sp := fun vs H Q _ => ∃ r : Addr, vs = [.ref r] ∧ RowAt H r ∧ ∀ a mem H', Ro r H H' → H' a = some (.lst (mem.map V.int)) → MemOk mem → Q (.ref a) H'
theorem scMemory : FnScope ["_law_row", "_law_k"] ["_law_row"] (defScope sMemory) := ⟨rfl, rfl, rfl, by decide +kernel, rfl, by decide +kernel, by decide +kernel⟩
theorem ok_memory (T : Txt K mg) : Pr P w K mg base CX0 3 (He.ga K "_law_memory") ["_law_row"] spMemory := by
  refine T.f_law_memory.pr scMemory (fun _ _ _ _ _ _ us hl => match us, hl with | [_], _ => rfl) (fun vs H Q E h => ?_) (fun cdv A outer s H vs Q E hr h => ?_)
  · obtain ⟨r, rfl, _⟩ := h
    rfl
  obtain ⟨r, rfl, hR, h⟩ := h
  refine ⟨_, (pss_one (ps_ret (pe_lc (own := [("_law_k", 1)]) (g := gName 1) (tt := tYes) (te := tCall spNumber [] E0 (tCons (tVar 0) tNil)) rfl scMemory.nd (pi_range1 rfl (T.free _ (by decide +kernel)) (pa_cons pe_int pa_nil)) (blkOk_by (N := ["_law_row", "_law_k"]) (sc := defScope sMemory) (by decide +kernel)) (fun _ _ _ _ _ => pg_name (i := 1) scMemory.nd rfl (Or.inl rfl) (Or.inr rfl)) (fun _ _ _ _ _ => pts_nil) (fun _ _ _ _ _ => by exact (pe_callP (ok_number T) (hr.mono (by omega)) rfl (T.glo _ (by decide +kernel)) pass0 (pa_cons (pv 0) pa_nil)))))), ?_⟩
  refine ⟨6, rfl, by decide, by decide, fun D nD => lc_range (lo := 0) (n := 6) (fun i H' => ∃ zs : List Int, zs.length = i ∧ (∀ z ∈ zs, Ok1 z) ∧ Ro r H H' ∧ H' D = some (.lst (zs.map V.int))) ⟨[], rfl, (by intro z hz; cases hz), (Ro.refl hR).new nD _, upd_same⟩ (fun i H1 hi e => ?_) (fun H1 e => ?_)⟩
  · obtain ⟨zs, lz, oz, R1, hD⟩ := e
    refine ⟨rfl, yes_then ⟨_, rfl, r, rfl, R1.row, fun z H2 ok R2 => ?_⟩⟩
    have ne : D ≠ r := hR.ne nD
    have hD2 := R2.st _ _ hD ne
    refine ⟨_, hD2, by rw [List.length_map]; exact small_line (by omega), zs ++ [z], by rw [List.length_append, lz]; rfl, fun y hy => ?_, ?_, ?_⟩
    · rcases List.mem_append.mp hy with q | q
      · exact oz y q
      · rw [List.mem_singleton] at q
        subst q
        exact ok
    · have R12 := R1.trans R2
      refine ⟨fun b o e nb => ?_, ?_⟩
      · rw [upd_ne (ne_of_none e nD)]
        exact R12.st b o e nb
      · obtain ⟨ns, z⟩ := R12.row
        exact ⟨ns, (upd_ne (Ne.symm ne)).trans z⟩
    · rw [upd_same, List.map_append]
      rfl
  · obtain ⟨zs, lz, oz, R1, hD⟩ := e
    exact h D zs H1 R1 hD ⟨lz, oz⟩
/-! ### bodies and statements -/
def spBody : Nat → Sp
  | 0 => fun _ _ _ _ => False
  | n + 1 => fun vs H Q _ => ∃ (r nm : Addr) (rep : Int), vs = [.ref r, .int n, .ref nm, .int rep] ∧ RowAt H r ∧ XyAt (wo r H) nm ∧ ∀ b q H', Ro r H H' → (∀ av, Old H av → BodyAt (wx (r :: av) H') (SmAt (wx (r :: av) H') n) b q) → WfB n b → Q (.ref q) H'
def spStat : Nat → Sp
  | 0 => fun _ _ _ _ => False
  | n + 1 => fun vs H Q _ => ∃ (r nm : Addr) (rep : Int), vs = [.ref r, .int n, .ref nm, .int rep] ∧ RowAt H r ∧ XyAt (wo r H) nm ∧ ∀ s v H', Ro r H H' → (∀ av, Old H av → SmAt (wx (r :: av) H') n s v) → Wf n s → Q v H'
theorem scBody : FnScope ["_law_row", "_law_depth", "_law_names", "_law_repeats", "_law_body_here", "_law_k"] ["_law_row", "_law_depth", "_law_names", "_law_repeats"] (defScope sBody) := ⟨rfl, rfl, rfl, by decide +kernel, rfl, by decide +kernel, by decide +kernel⟩
theorem scStat : FnScope ["_law_row", "_law_depth", "_law_names", "_law_repeats", "_law_cells_here", "_law_choice", "_law_name", "_law_first", "_law_count"] ["_law_row", "_law_depth", "_law_names", "_law_repeats"] (defScope sStatement) := ⟨rfl, rfl, rfl, by decide +kernel, rfl, by decide +kernel, by decide +kernel⟩
theorem Paired.snoc {α β : Type} {F : α → β → Prop} {x : α} {y : β} (h : F x y) : ∀ {l : List α} {m : List β}, Paired F l m → Paired F (l ++ [x]) (m ++ [y])
  | _, _, .nil => .cons h .nil
  | _, _, .cons a b => .cons a (Paired.snoc h b)
theorem ok_body_step (T : Txt K mg) {n j : Nat} (hj : 2 ≤ j) (IH : Pr P w K mg base CX0 j (He.ga K "_law_statement") ["_law_row", "_law_depth", "_law_names", "_law_repeats"] (spStat n)) :
    Pr P w K mg base CX0 (j + 1) (He.ga K "_law_body") ["_law_row", "_law_depth", "_law_names", "_law_repeats"] (spBody n) := by
  cases n with
  | zero => exact none2 T.f_law_body (fun _ _ _ _ _ _ us hl => match us, hl with | [_, _, _, _], _ => rfl) fun _ _ _ _ z => z
  | succ n =>
  refine T.f_law_body.pr scBody (fun _ _ _ _ _ _ us hl => match us, hl with | [_, _, _, _], _ => rfl) (fun vs H Q E h => ?_) (fun cdv A outer s H vs Q E hr h => ?_)
  · obtain ⟨r, nm, rep, rfl, _⟩ := h
    rfl
  obtain ⟨r, nm, rep, rfl, hR, hx, h⟩ := h
  refine ⟨_, (pss_cons (ps_set (i := 4) scBody.nd rfl (Or.inl rfl) (pe_lst pa_nil))
      (pss_cons (ps_for PassesOwn.never rfl (pi_range1 rfl (T.free _ (by decide +kernel)) (pa_cons (pe_callP (ok_take T) (hr.mono (by omega)) rfl (T.glo _ (by decide +kernel)) pass0 (pa_cons (pv 0) (pa_cons (pe_int) pa_nil))) pa_nil)) (pg_name (i := 5) scBody.nd rfl (Or.inl rfl)) (pss_one (ps_expr (pe_bm PySem.F.plainAttrs_list PySem.F.slot_list_append PySem.F.type_list_append mt_append (pv 4) (pa_cons (pe_callP (IH) hr rfl (T.glo _ (by decide +kernel)) pass0 (pa_cons (pv 0) (pa_cons (pv 1) (pa_cons (pv 2) (pa_cons (pv 3) pa_nil))))) pa_nil)))))
      (pss_one (ps_ret (pv 4))))), ?_⟩
  refine ⟨(by show 0 ≤ sizeLine; decide), fun q nq => ?_⟩
  have qr := hR.ne nq
  refine ⟨_, rfl, r, _, rfl, hR.keep (sm_upd nq _), by decide, fun c H1 c0 c1 R1 => ?_⟩
  have R0 : Ro r H H1 := (Ro.of hR (sm_upd nq _)).trans R1
  refine ⟨c, rfl, by omega, by omega, for_range (lo := 0) (n := c.toNat) (fun i σ H' => ∃ (sl : List Sm) (vs : List V) (v5 : Option V), σ = [some (.ref r), some (.int n), some (.ref nm), some (.int rep), some (.ref q), v5] ∧ Ro r H H' ∧ H' q = some (.lst vs) ∧ sl.length = i ∧ (∀ s ∈ sl, Wf n s) ∧ ∀ av, Old H av → Paired (SmAt (wx (r :: q :: av) H') n) sl vs)
    ⟨[], [], none, rfl, R0, R1.st _ _ upd_same qr, rfl, (by intro s hs; cases hs), fun _ _ => .nil⟩ ?_ ?_⟩
  · rintro i σ H' hi ⟨sl, vs, v5, rfl, R, hq, ll, wf, hp⟩
    refine ⟨_, rfl, .inl ⟨rfl, _, SqL.of hq⟩, _, rfl, _, rfl, _, rfl, _, rfl, r, nm, rep, rfl, R.row, R.same _ _ hx, fun s v H2 R2 hs ws => ?_⟩
    have hq2 := R2.st _ _ hq qr
    have lv : vs.length ≤ 3 := by
      have e := (hp [] (by intro b hb; cases hb)).length
      omega
    refine ⟨q, _, _, rfl, rfl, hq2, small_line (by omega), sl ++ [s], vs ++ [v], _, rfl, ?_, upd_same, by rw [List.length_append, ll]; rfl, fun y hy => ?_, fun av ho => ?_⟩
    · have R12 := R.trans R2
      refine ⟨fun b o e nb => ?_, ?_⟩
      · rw [upd_ne (ne_of_none e nq)]
        exact R12.st b o e nb
      · obtain ⟨ns, z⟩ := R12.row
        exact ⟨ns, (upd_ne (Ne.symm qr)).trans z⟩
    · rcases List.mem_append.mp hy with e | e
      · exact wf y e
      · rw [List.mem_singleton] at e
        subst e
        exact ws
    · have oq : Old H' (q :: av) := fun b hb => by
        rcases List.mem_cons.mp hb with e | e
        · rw [e, hq]
          intro z
          cases z
        · exact (ho.mono R) b e
      have sx : Same (wx (r :: q :: av) H2) (wx (r :: q :: av) (upd H2 q (.lst (vs ++ [v])))) := fun b o e => by
        obtain ⟨n1, e1⟩ := wx_some e
        refine wx_of ?_ n1
        rw [upd_ne fun z => n1 (by rw [z]; exact List.mem_cons_of_mem _ List.mem_cons_self)]
        exact e1
      refine Paired.snoc (SmAt.mono sx n s v (hs (q :: av) oq)) (Paired.mapP (hp av ho) fun s v z => SmAt.mono ((R2.sameX (q :: av)).trans sx) n s v z)
  · rintro σ H' ⟨sl, vs, v5, rfl, R, hq, ll, wf, hp⟩
    refine ⟨_, rfl, h sl q H' R (fun av ho => ⟨vs, wx_of hq fun z => ?_, Paired.mapP (hp av ho) fun s v z => SmAt.mono (fun b o e => ?_) n s v z⟩) ⟨by omega, wf⟩⟩
    · rcases List.mem_cons.mp z with e | e
      · exact qr e
      · exact ho q e nq
    · obtain ⟨n1, e1⟩ := wx_some e
      exact wx_of e1 fun m => n1 ((List.mem_cons.mp m).elim (fun z => z ▸ List.mem_cons_self) fun z => List.mem_cons_of_mem _ (List.mem_cons_of_mem _ z))
/-- the third statement: choice is below nine at the bottom -/
def adjT : TS := fun D σ H => ∃ (r nm ac : Addr) (n : Nat) (rep ch : Int), σ = [some (.ref r), some (.int n), some (.ref nm), some (.int rep), some (.ref ac), some (.int ch), none, none, none] ∧ 0 ≤ ch ∧ ch < 18 ∧
  ∀ c' : Int, 0 ≤ c' → c' < 18 → (n = 0 → c' < 9) → D.nx [some (.ref r), some (.int n), some (.ref nm), some (.int rep), some (.ref ac), some (.int c'), none, none, none] H
theorem ps_adj {X : Cx} {st : Stmt} (h : PS X st (tIfS (tAnd (tTest (tOp rEq (tVar 1) (tC (.int 0)))) (tTest (tOp (rI0 fun i j => .bl (decide (i ≥ j))) (tVar 5) (tC (.int 9))))) (tAsg (tOp (rI0 fun i j => .int (i - j)) (tVar 5) (tC (.int 9))) (gName 5)) tNext)) : PS X st adjT := by
  refine ps_weak h fun D σ H q => ?_
  obtain ⟨r, nm, ac, n, rep, ch, rfl, h0, h1, k⟩ := q
  refine ⟨_, rfl, rfl, _, rfl, ?_⟩
  by_cases e : n = 0
  · refine if_t (decide_eq_true (by rw [e]; rfl)) ⟨_, rfl, _, _, rfl, rfl, _, rfl, ?_⟩
    by_cases c : 9 ≤ ch
    · exact if_t (decide_eq_true c) ⟨_, rfl, _, _, rfl, rfl, k (ch - 9) (by omega) (by omega) fun _ => by omega⟩
    · exact if_f (decide_eq_false c) (k ch h0 h1 fun _ => by omega)
  · exact if_f (decide_eq_false fun z => e (by have := V.int.inj z; omega)) (if_f rfl (k ch h0 h1 fun z => absurd z e))
theorem sm_set {G : Hp} {l : Lc} {e : Ex} {v : V} (h : ∃ a u, v = .ref a ∧ G a = some (.tup [.str "set", .str (lcS l), u]) ∧ ExAt G e u ∧ exD e ≤ 3) : ∀ n, SmAt G n (.set l e) v
  | 0 => h
  | _ + 1 => h
theorem sm_putS {G : Hp} {c : Nm} {i e : Ex} {v : V} (h : ∃ a u w, v = .ref a ∧ G a = some (.tup [.str "put", .str (nmS c), u, w]) ∧ (ExAt G i u ∧ exD i ≤ 3) ∧ ExAt G e w ∧ exD e ≤ 3) : ∀ n, SmAt G n (.put c i e) v
  | 0 => h
  | _ + 1 => h
theorem sm_later {G : Hp} {e : Ex} {v : V} (h : ∃ a u, v = .ref a ∧ G a = some (.tup [.str "later", u]) ∧ ExAt G e u ∧ exD e ≤ 3) : ∀ n, SmAt G n (.later e) v
  | 0 => h
  | _ + 1 => h
theorem sm_retry {G : Hp} {v : V} (h : ∃ a, v = .ref a ∧ G a = some (.tup [.str "retry"])) : ∀ n, SmAt G n .retry v
  | 0 => h
  | _ + 1 => h
theorem sm_undo {G : Hp} {v : V} (h : ∃ a, v = .ref a ∧ G a = some (.tup [.str "undo"])) : ∀ n, SmAt G n .undo v
  | 0 => h
  | _ + 1 => h
theorem wf_leaf {s : Sm} (h : ∀ n, n = 0 → Wf n s) : ∀ n, (∀ m, Wf (m + 1) s) → Wf n s
  | 0, _ => h 0 rfl
  | m + 1, k => k m
theorem ok_stat_step (T : Txt K mg) {n j : Nat} (hj : 8 ≤ j) (IH : Pr P w K mg base CX0 j (He.ga K "_law_body") ["_law_row", "_law_depth", "_law_names", "_law_repeats"] (spBody n)) :
    Pr P w K mg base CX0 (j + 1) (He.ga K "_law_statement") ["_law_row", "_law_depth", "_law_names", "_law_repeats"] (spStat (n + 1)) := by
  refine T.f_law_statement.pr scStat (fun _ _ _ _ _ _ us hl => match us, hl with | [_, _, _, _], _ => rfl) (fun vs H Q E h => ?_) (fun cdv A outer s H vs Q E hr h => ?_)
  · obtain ⟨r, nm, rep, rfl, _⟩ := h
    rfl
  obtain ⟨r, nm, rep, rfl, hR, hx, h⟩ := h
  refine ⟨_, (pss_cons (ps_set (i := 4) scStat.nd rfl (Or.inl rfl) (pe_callP0 (ok_cells T) (hr.mono (by omega)) rfl (T.glo _ (by decide +kernel)) pass0))
      (pss_cons (ps_set (i := 5) scStat.nd rfl (Or.inl rfl) (pe_callP (ok_take T) (hr.mono (by omega)) rfl (T.glo _ (by decide +kernel)) pass0 (pa_cons (pv 0) (pa_cons (pe_int) pa_nil))))
      (pss_cons (ps_adj (ps_if (PW.pt (pw_and (pt_cmpR op_eq (pv 1) (pe_int) (nomark _)) (pw_and1 (pt_cmpR op_ge (pv 5) (pe_int) (nomark _))))) (pss_one (ps_set (i := 5) scStat.nd rfl (Or.inl rfl) (pe_op op_sub (pv 5) (pe_int)))) pss_nil))
      (pss_cons (ps_if (pt_cmpR op_lt (pv 5) (pe_int) (nomark _)) (pss_one (ps_ret (pe_tup (pa_cons (pe_str) (pa_cons (pe_ix ix_list (pv 2) (pe_callP (ok_take T) (hr.mono (by omega)) rfl (T.glo _ (by decide +kernel)) pass0 (pa_cons (pv 0) (pa_cons (pe_callB call_len_seq (by rfl) (T.free _ (by decide +kernel)) PySem.boot_len (pa_cons (pv 2) pa_nil)) pa_nil))) (fun _ _ => rfl)) (pa_cons (pe_callP (ok_exp T 3) (hr.mono (by omega)) rfl (T.glo _ (by decide +kernel)) pass0 (pa_cons (pv 0) (pa_cons (pe_int) (pa_cons (pv 4) (pa_cons (pv 2) pa_nil))))) pa_nil)))))) pss_nil)
      (pss_cons (ps_if (pt_cmpR op_lt (pv 5) (pe_int) (nomark _)) (pss_cons (ps_set (i := 6) scStat.nd rfl (Or.inl rfl) (pe_ix ix_tup (pe_ix ix_list (pv 4) (pe_callP (ok_take T) (hr.mono (by omega)) rfl (T.glo _ (by decide +kernel)) pass0 (pa_cons (pv 0) (pa_cons (pe_int) pa_nil))) (fun _ _ => rfl)) (pe_int) (fun _ _ => rfl)))
      (pss_one (ps_ret (pe_tup (pa_cons (pe_str) (pa_cons (pv 6) (pa_cons (pe_callP (ok_index T 2) (hr.mono (by omega)) rfl (T.glo _ (by decide +kernel)) pass0 (pa_cons (pv 0) (pa_cons (pe_int) (pa_cons (pv 4) (pa_cons (pv 2) pa_nil))))) (pa_cons (pe_callP (ok_exp T 3) (hr.mono (by omega)) rfl (T.glo _ (by decide +kernel)) pass0 (pa_cons (pv 0) (pa_cons (pe_int) (pa_cons (pv 4) (pa_cons (pv 2) pa_nil))))) pa_nil)))))))) pss_nil)
      (pss_cons (ps_if (pt_cmpR op_eq (pv 5) (pe_int) (nomark _)) (pss_one (ps_ret (pe_tup (pa_cons (pe_str) (pa_cons (pe_callP (ok_exp T 3) (hr.mono (by omega)) rfl (T.glo _ (by decide +kernel)) pass0 (pa_cons (pv 0) (pa_cons (pe_int) (pa_cons (pv 4) (pa_cons (pv 2) pa_nil))))) pa_nil))))) pss_nil)
      (pss_cons (ps_if (pt_cmpR op_eq (pv 5) (pe_int) (nomark _)) (pss_one (ps_ret (pe_ix ix_list (pe_lst (pa_cons (pe_tup (pa_cons (pe_str) pa_nil)) (pa_cons (pe_tup (pa_cons (pe_str) pa_nil)) (pa_cons (pe_tup (pa_cons (pe_str) pa_nil)) pa_nil)))) (pe_callP (ok_take T) (hr.mono (by omega)) rfl (T.glo _ (by decide +kernel)) pass0 (pa_cons (pv 0) (pa_cons (pe_int) pa_nil))) (fun _ _ => rfl)))) pss_nil)
      (pss_cons (ps_set (i := 7) scStat.nd rfl (Or.inl rfl) (pe_callP (IH) hr rfl (T.glo _ (by decide +kernel)) pass0 (pa_cons (pv 0) (pa_cons (pe_op op_sub (pv 1) (pe_int)) (pa_cons (pv 2) (pa_cons (pv 3) pa_nil))))))
      (pss_cons (ps_if (pt_cmpR op_lt (pv 5) (pe_int) (nomark _)) (pss_one (ps_ret (pe_tup (pa_cons (pe_str) (pa_cons (pe_callP (ok_exp T 3) (hr.mono (by omega)) rfl (T.glo _ (by decide +kernel)) pass0 (pa_cons (pv 0) (pa_cons (pe_int) (pa_cons (pv 4) (pa_cons (pv 2) pa_nil))))) (pa_cons (pv 7) (pa_cons (pe_callP (IH) hr rfl (T.glo _ (by decide +kernel)) pass0 (pa_cons (pv 0) (pa_cons (pe_op op_sub (pv 1) (pe_int)) (pa_cons (pv 2) (pa_cons (pv 3) pa_nil))))) pa_nil))))))) pss_nil)
      (pss_cons (ps_if (PW.pt (pw_and (pt_cmpR op_lt (pv 5) (pe_int) (nomark _)) (pw_and1 (pt_cmpR op_gt (pv 3) (pe_int) (nomark _))))) (pss_cons (ps_set (i := 8) scStat.nd rfl (Or.inl rfl) (pe_ix ix_list (pe_lst (pa_cons (pe_tup (pa_cons (pe_str) (pa_cons (pe_callP (ok_take T) (hr.mono (by omega)) rfl (T.glo _ (by decide +kernel)) pass0 (pa_cons (pv 0) (pa_cons (pe_int) pa_nil))) pa_nil))) (pa_cons (pe_callP (ok_exp T 2) (hr.mono (by omega)) rfl (T.glo _ (by decide +kernel)) pass0 (pa_cons (pv 0) (pa_cons (pe_int) (pa_cons (pv 4) (pa_cons (pv 2) pa_nil))))) pa_nil))) (pe_callTy call_int1 rfl (T.free _ (by decide +kernel)) (by decide +kernel) (pa_cons (pe_cmpR op_eq (pe_callP (ok_take T) (hr.mono (by omega)) rfl (T.glo _ (by decide +kernel)) pass0 (pa_cons (pv 0) (pa_cons (pe_int) pa_nil))) pe_int (nomark _)) pa_nil)) (fun _ _ => rfl)))
      (pss_one (ps_ret (pe_tup (pa_cons (pe_str) (pa_cons (pv 8) (pa_cons (pe_callP (IH) hr rfl (T.glo _ (by decide +kernel)) pass0 (pa_cons (pv 0) (pa_cons (pe_op op_sub (pv 1) (pe_int)) (pa_cons (pv 2) (pa_cons (pe_op op_sub (pv 3) (pe_int)) pa_nil))))) pa_nil))))))) pss_nil)
      (pss_one (ps_ret (pe_tup (pa_cons (pe_str) (pa_cons (pv 7) (pa_cons (pe_callP (IH) hr rfl (T.glo _ (by decide +kernel)) pass0 (pa_cons (pv 0) (pa_cons (pe_op op_sub (pv 1) (pe_int)) (pa_cons (pv 2) (pa_cons (pv 3) pa_nil))))) pa_nil)))))))))))))))), ?_⟩
  have three : 3 ≤ sizeLine := by decide
  have four : 4 ≤ sizeLine := by decide
  have one : 1 ≤ sizeLine := by decide
  -- a new statement
  have fin : ∀ {H1 : Hp} {l : List V} (s : Sm), Ro r H H1 → (∀ av, Old H av → ∀ p G, Same (wx (r :: av) H1) G → G p = some (.tup l) → SmAt G n s (.ref p)) → Wf n s → ∀ p, H1 p = none → Q (.ref p) (upd H1 p (.tup l)) := fun {H1 l} s R1 k wf p np =>
    h s _ _ (R1.new np _) (fun av ho => k av ho p _ (Ro.sameX (.of R1.row (sm_upd np _)) av) (wx_new R1.row (ho.mono R1) np)) wf
  refine ⟨rfl, fun ac H1 s1 c1 => ?_⟩
  have R1 : Ro r H H1 := .of hR s1
  refine ⟨_, rfl, r, _, rfl, R1.row, by decide, fun ch H2 c0 c18 R2 => ⟨r, nm, ac, n, rep, ch, rfl, c0, c18, fun c k0 k18 k9 => ?_⟩⟩
  have R02 := R1.trans R2
  have hc := (c1.wo R1.row).mono R2.same
  have hx2 := R02.same _ _ hx
  obtain ⟨t1, t2, t3, q0, q1, q2, q3⟩ := id hc
  have xyA : ∀ {H3 : Hp}, Ro r H2 H3 → H3 nm = some (.lst [.str "x", .str "y"]) := fun R => (wo_some (R.same _ _ hx2)).2
  have ceA : ∀ {H3 : Hp}, Ro r H2 H3 → H3 ac = some (.lst [.ref t1, .ref t2, .ref t3]) := fun R => (wo_some (R.same _ _ q0)).2
  have cellA : ∀ {y : Int}, 0 ≤ y → y < 3 → ∃ t d s v, atI [V.ref t1, .ref t2, .ref t3] y = some (.ref t) ∧ wo r H2 t = some (.tup [.str (nmS d), s, v]) := fun {y} y0 y1 => by
    have yy : y = 0 ∨ y = 1 ∨ y = 2 := by omega
    rcases yy with rfl | rfl | rfl
    · exact ⟨t1, .a, _, _, a0, q1⟩
    · exact ⟨t2, .b, _, _, a1, q2⟩
    · exact ⟨t3, .c, _, _, a2, q3⟩
  have goE : ∀ {H3 : Hp} {Q' : VK}, Ro r H2 H3 → (∀ e v H4, Ro r H3 H4 → (∀ av, Old H3 av → ExAt (wx (r :: av) H4) e v) → exD e ≤ 2 → Q' v H4) → spExp 3 [.ref r, .int 2, .ref ac, .ref nm] H3 Q' E0 := fun R k => ⟨r, ac, nm, rfl, R.row, hc.mono R.same, R.same _ _ hx2, k⟩
  have goE1 : ∀ {H3 : Hp} {Q' : VK}, Ro r H2 H3 → (∀ e v H4, Ro r H3 H4 → (∀ av, Old H3 av → ExAt (wx (r :: av) H4) e v) → exD e ≤ 1 → Q' v H4) → spExp 2 [.ref r, .int 1, .ref ac, .ref nm] H3 Q' E0 := fun R k => ⟨r, ac, nm, rfl, R.row, hc.mono R.same, R.same _ _ hx2, k⟩
  refine ⟨_, rfl, _, _, rfl, rfl, _, rfl, ?_⟩
  by_cases k4 : c < 4
  · refine if_t (decide_eq_true k4) ⟨_, rfl, _, rfl, _, rfl, nm, _, rfl, .inl (SqL.of (xyA (.refl R2.row))), r, _, rfl, R2.row, by decide, fun y H3 y0 y1 R3 => ?_⟩
    obtain ⟨l, el⟩ := xy_at y0 y1
    refine ⟨nm, _, _, _, rfl, rfl, SqL.of (xyA R3), el, _, rfl, _, rfl, _, rfl, goE R3 fun e v H4 R4 ae de => ?_⟩
    have R03 := R02.trans R3
    exact ⟨three, fin (.set l e) (R03.trans R4) (fun av ho p G s eq => sm_set ⟨p, v, rfl, eq, (ae av (ho.mono R03)).mono s, by omega⟩ n) (by cases n <;> exact True.intro)⟩
  refine if_f (decide_eq_false k4) ⟨_, rfl, _, _, rfl, rfl, _, rfl, ?_⟩
  by_cases k7 : c < 7
  · refine if_t (decide_eq_true k7) ⟨_, rfl, _, rfl, r, _, rfl, R2.row, by decide, fun y H3 y0 y1 R3 => ?_⟩
    obtain ⟨t, d, s, v, ea, et⟩ := cellA y0 y1
    have R03 := R02.trans R3
    refine ⟨ac, _, _, _, rfl, rfl, SqL.of (ceA R3), ea, t, _, _, _, rfl, rfl, SqT.of (wo_some (R3.same _ _ et)).2, a0, _, rfl, _, rfl, _, rfl, _, rfl, goE1 R3 fun ei vi H4 R4 ai di => ?_⟩
    refine ⟨_, rfl, _, rfl, _, rfl, goE (R3.trans R4) fun e v H5 R5 ae de => ?_⟩
    exact ⟨four, fin (.put d ei e) ((R03.trans R4).trans R5) (fun av ho p G s eq => sm_putS ⟨p, vi, v, rfl, eq, ⟨((ai av (ho.mono R03)).mono (R5.sameX av)).mono s, by omega⟩, (ae av (ho.mono (R03.trans R4))).mono s, by omega⟩ n) (by cases n <;> exact True.intro)⟩
  refine if_f (decide_eq_false k7) ⟨_, rfl, rfl, _, rfl, ?_⟩
  by_cases e7 : c = 7
  · refine if_t (decide_eq_true (congrArg V.int e7)) ⟨_, rfl, _, rfl, _, rfl, goE (.refl R2.row) fun e v H4 R4 ae de => ?_⟩
    exact ⟨two_line, fin (.later e) (R02.trans R4) (fun av ho p G s eq => sm_later ⟨p, v, rfl, eq, (ae av (ho.mono R02)).mono s, by omega⟩ n) (by cases n <;> exact True.intro)⟩
  refine if_f (decide_eq_false fun z => e7 (V.int.inj z)) ⟨_, rfl, rfl, _, rfl, ?_⟩
  by_cases e8 : c = 8
  · refine if_t (decide_eq_true (congrArg V.int e8)) ⟨one, fun p1 np1 => ⟨one, fun p2 np2 => ⟨one, fun p3 np3 => ⟨three, fun pl npl => ?_⟩⟩⟩⟩
    have A1 : Ro r H2 (upd H2 p1 (.tup [.str "retry"])) := .of R2.row (sm_upd np1 _)
    have A2 : Ro r _ (upd (upd H2 p1 (.tup [.str "retry"])) p2 (.tup [.str "undo"])) := .of A1.row (sm_upd np2 _)
    have A3 : Ro r _ (upd (upd (upd H2 p1 (.tup [.str "retry"])) p2 (.tup [.str "undo"])) p3 (.tup [.str "retry"])) := .of A2.row (sm_upd np3 _)
    have A4 : Ro r _ (upd (upd (upd (upd H2 p1 (.tup [.str "retry"])) p2 (.tup [.str "undo"])) p3 (.tup [.str "retry"])) pl (.lst [.ref p1, .ref p2, .ref p3])) := .of A3.row (sm_upd npl _)
    refine ⟨_, rfl, r, _, rfl, A4.row, by decide, fun y H3 y0 y1 R3 => ?_⟩
    have hl := R3.st _ _ upd_same (A3.row.ne npl)
    have R03 := (((R02.trans A1).trans A2).trans A3).trans (A4.trans R3)
    have yy : y = 0 ∨ y = 1 ∨ y = 2 := by omega
    rcases yy with rfl | rfl | rfl
    · refine ⟨pl, _, _, _, rfl, rfl, SqL.of hl, a0, h .retry _ _ R03 (fun av ho => sm_retry ⟨p1, rfl, ?_⟩ n) (by cases n <;> exact True.intro)⟩
      exact ((A2.trans A3).trans (A4.trans R3)).sameX av _ _ (wx_new R2.row (ho.mono R02) np1)
    · refine ⟨pl, _, _, _, rfl, rfl, SqL.of hl, a1, h .undo _ _ R03 (fun av ho => sm_undo ⟨p2, rfl, ?_⟩ n) (by cases n <;> exact True.intro)⟩
      exact (A3.trans (A4.trans R3)).sameX av _ _ (wx_new A1.row (ho.mono (R02.trans A1)) np2)
    · refine ⟨pl, _, _, _, rfl, rfl, SqL.of hl, a2, h .retry _ _ R03 (fun av ho => sm_retry ⟨p3, rfl, ?_⟩ n) (by cases n <;> exact True.intro)⟩
      exact (A4.trans R3).sameX av _ _ (wx_new A2.row (ho.mono ((R02.trans A1).trans A2)) np3)
  refine if_f (decide_eq_false fun z => e8 (V.int.inj z)) ?_
  cases n with
  | zero => exact absurd (k9 rfl) (by omega)
  | succ m =>
    have pm : (((m + 1 : Nat) : Int) - 1) = (m : Int) := by omega
    have eqB : ∀ rp : Int, [V.ref r, .int (((m + 1 : Nat) : Int) - 1), .ref nm, .int rp] = [V.ref r, .int m, .ref nm, .int rp] := fun rp => by rw [pm]
    refine ⟨_, rfl, _, rfl, _, _, rfl, rfl, _, rfl, _, rfl, r, nm, rep, eqB _, R02.row, R02.same _ _ hx, fun b1 q1' H3 R3 hb1 wb1 => ?_⟩
    have R03 := R02.trans R3
    refine ⟨_, rfl, _, _, rfl, rfl, _, rfl, ?_⟩
    by_cases k12 : c < 12
    · refine if_t (decide_eq_true k12) ⟨_, rfl, _, rfl, _, rfl, goE R3 fun e v H4 R4 ae de => ⟨_, rfl, _, rfl, _, rfl, _, _, rfl, rfl, _, rfl, _, rfl, r, nm, rep, eqB _, (R03.trans R4).row, (R03.trans R4).same _ _ hx, fun b2 q2' H5 R5 hb2 wb2 => ?_⟩⟩
      have R45 := R4.trans R5
      exact ⟨four, fin (.ite e b1 b2) (R03.trans R45) (fun av ho p G s eq => ⟨p, v, q1', q2', rfl, eq, ⟨((ae av (ho.mono R03)).mono (R5.sameX av)).mono s, by omega⟩,
        ((hb1 av (ho.mono R02)).mono (R45.sameX av) fun x y z => SmAt.mono (R45.sameX av) m x y z).mono s fun x y z => SmAt.mono s m x y z, (hb2 av (ho.mono (R03.trans R4))).mono s fun x y z => SmAt.mono s m x y z⟩) ⟨wb1, wb2⟩⟩
    refine if_f (decide_eq_false k12) ⟨_, rfl, _, _, rfl, rfl, _, rfl, ?_⟩
    by_cases kr : c < 14 ∧ 0 < rep
    · refine if_t (decide_eq_true kr.1) ⟨_, rfl, _, _, rfl, rfl, _, rfl, if_t (decide_eq_true kr.2) ?_⟩
      refine ⟨_, rfl, r, _, rfl, R03.row, by decide, fun y H4 y0 y1 R4 => ⟨two_line, fun pn npn => ?_⟩⟩
      have B1 : Ro r H4 (upd H4 pn (.tup [.str "number", .int y])) := .of R4.row (sm_upd npn _)
      refine ⟨_, rfl, _, rfl, _, rfl, goE1 ((R3.trans R4).trans B1) fun e v H5 R5 ae de => ⟨two_line, fun pl npl => ?_⟩⟩
      have B2 : Ro r H5 (upd H5 pl (.lst [.ref pn, v])) := .of R5.row (sm_upd npl _)
      refine ⟨_, rfl, r, _, rfl, B2.row, by decide, fun z H6 z0 z1 R6 => ⟨rfl, .inr ⟨_, rfl, ?_⟩⟩⟩
      have hl := R6.st _ _ upd_same (R5.row.ne npl)
      have R06 := ((R03.trans R4).trans B1).trans ((R5.trans B2).trans R6)
      by_cases z9 : z = 0
      · rw [b0, if_pos z9]
        refine ⟨pl, _, _, _, rfl, rfl, SqL.of hl, a1, ?_⟩
        refine ⟨_, rfl, _, rfl, _, rfl, _, _, rfl, rfl, _, rfl, _, rfl, _, _, rfl, rfl, r, nm, (rep - 1), eqB _, R06.row, R06.same _ _ hx, fun b2 q2' H7 R7 hb2 wb2 => ?_⟩
        exact ⟨three, fin (.rep e b2) (R06.trans R7) (fun av ho p G s e => ⟨p, _, q2', rfl, e, ⟨(((ae av (ho.mono ((R03.trans R4).trans B1))).mono ((B2.trans R6).sameX av)).mono (R7.sameX av)).mono s, by omega⟩, (hb2 av (ho.mono R06)).mono s fun x y z => SmAt.mono s m x y z⟩) wb2⟩
      · rw [b0, if_neg z9]
        refine ⟨pl, _, _, _, rfl, rfl, SqL.of hl, a0, ?_⟩
        refine ⟨_, rfl, _, rfl, _, rfl, _, _, rfl, rfl, _, rfl, _, rfl, _, _, rfl, rfl, r, nm, (rep - 1), eqB _, R06.row, R06.same _ _ hx, fun b2 q2' H7 R7 hb2 wb2 => ?_⟩
        exact ⟨three, fin (.rep (.num y) b2) (R06.trans R7) (fun av ho p G s e => ⟨p, _, q2', rfl, e, ⟨⟨pn, rfl, s _ _ (R7.sameX av _ _ (((R5.trans B2).trans R6).sameX av _ _ (wx_new R4.row (ho.mono (R03.trans R4)) npn)))⟩, Nat.zero_le _⟩, (hb2 av (ho.mono R06)).mono s fun x y z => SmAt.mono s m x y z⟩) wb2⟩
    · by_cases k14 : c < 14
      · have k0r : ¬ 0 < rep := fun z => kr ⟨k14, z⟩
        refine if_t (decide_eq_true k14) ⟨_, rfl, _, _, rfl, rfl, _, rfl, if_f (decide_eq_false k0r) ⟨_, rfl, _, rfl, _, rfl, _, _, rfl, rfl, _, rfl, _, rfl, r, nm, rep, eqB _, R03.row, R03.same _ _ hx, fun b2 q2' H4 R4 hb2 wb2 => ?_⟩⟩
        exact ⟨three, fin (.cho b1 b2) (R03.trans R4) (fun av ho p G s eq => ⟨p, q1', q2', rfl, eq, ((hb1 av (ho.mono R02)).mono (R4.sameX av) fun x y z => SmAt.mono (R4.sameX av) m x y z).mono s fun x y z => SmAt.mono s m x y z, (hb2 av (ho.mono R03)).mono s fun x y z => SmAt.mono s m x y z⟩) ⟨wb1, wb2⟩⟩
      · refine if_f (decide_eq_false k14) (if_f rfl ⟨_, rfl, _, rfl, _, rfl, _, _, rfl, rfl, _, rfl, _, rfl, r, nm, rep, eqB _, R03.row, R03.same _ _ hx, fun b2 q2' H4 R4 hb2 wb2 => ?_⟩)
        exact ⟨three, fin (.cho b1 b2) (R03.trans R4) (fun av ho p G s eq => ⟨p, q1', q2', rfl, eq, ((hb1 av (ho.mono R02)).mono (R4.sameX av) fun x y z => SmAt.mono (R4.sameX av) m x y z).mono s fun x y z => SmAt.mono s m x y z, (hb2 av (ho.mono R03)).mono s fun x y z => SmAt.mono s m x y z⟩) ⟨wb1, wb2⟩⟩
theorem ok_body (T : Txt K mg) : ∀ n : Nat, Pr P w K mg base CX0 (9 + 2 * n) (He.ga K "_law_body") ["_law_row", "_law_depth", "_law_names", "_law_repeats"] (spBody n)
  | 0 => none2 T.f_law_body (fun _ _ _ _ _ _ us hl => match us, hl with | [_, _, _, _], _ => rfl) fun _ _ _ _ z => z
  | n + 1 => (ok_body_step T (by omega) (ok_stat_step T (by omega) (ok_body T n))).mono (by omega)
end
end K13
set_option Elab.async false
set_option linter.all false
set_option maxRecDepth 100000
set_option maxHeartbeats 4000000
/-! K13Law: _law_other, law (printed by gen_law.py). -/
namespace K13
open PySem PySem.Spec PyProof.Rows L2
open L2H (RoomH roomH_of)
/-- what a block comes to is of this form -/
structure RecG (r : Rec) : Prop where
  rd : Cl r.rd
  wr : Cl r.wr
  re : r.re = .non ∨ ∃ z, r.re = .str z
  k : ∃ o, r.k = ocS o
  fi : r.fi.length ≤ 2
  la : r.la.length ≤ 700000
theorem RecG.ok {r : Rec} (g : RecG r) : RecOk r := ⟨g.rd.nd, g.wr.nd, g.re⟩
theorem recG_of {x y : Int} {o : Oc × Stt} (g : Good o.2) (l : o.2.later.length ≤ 700000) : RecG (recOf x y o) := by
  obtain ⟨oc, st⟩ := o
  cases oc with
  | done => exact ⟨g.r, g.w, .inl rfl, ⟨.done, rfl⟩, Nat.le_refl _, l⟩
  | retry => exact ⟨g.r, Cl.nil, .inl rfl, ⟨.retry, rfl⟩, Nat.le_refl _, Nat.zero_le _⟩
  | undo => exact ⟨g.r, Cl.nil, .inl rfl, ⟨.undo, rfl⟩, Nat.le_refl _, Nat.zero_le _⟩
  | fault r => exact ⟨g.r, Cl.nil, .inr ⟨_, rfl⟩, ⟨.fault r, rfl⟩, Nat.le_refl _, Nat.zero_le _⟩
theorem blk_good {mem : List Int} (m : MemOk mem) {x y : Int} (ox : Ok1 x) (oy : Ok1 y) {b : List Sm} (wf : WfB 3 b) : RecG (blkR mem x y b) := by
  have g := (runB_good m (n := 3) wf.2 (st := blk0 x y) ⟨ox, oy, Cl.nil, Cl.nil⟩).mono (Nat.mul_le_mul_right _ wf.1)
  refine recG_of g.1 (Nat.le_trans g.2 ?_)
  show 0 + 3 * cap 3 ≤ 700000
  decide
theorem cl_99 {l : List (Int × Int)} (c : Cl l) : putI l 99 1 = l ++ [(99, 1)] := by
  unfold putI
  refine if_neg fun e => ?_
  obtain ⟨p, hp, e⟩ := List.any_eq_true.mp e
  have := (c.ks p hp).2
  have := of_decide_eq_true e
  omega
section
variable {w : World} {K : PySem.W.Frag} {mg : Str → Option Value} {base : Heap}
def spOther (K : PySem.W.Frag) : Sp := fun vs H Q _ => ∃ (r p : Addr) (rc : Rec), vs = [.ref r, .ref p] ∧ RowAt H r ∧ DueAt (wo r H) p rc ∧ RecG rc ∧
  ∀ a rc' H', Ro r H H' → OutR K (wo r H') a rc' → rc'.re = rc.re → (∀ t f : Prop, f → Told rc rc' t f) → Q (.ref a) H'
theorem scOther : FnScope ["_law_row", "_law_parts_here", "_law_kind", "_law_reads", "_law_writes", "_law_finals", "_law_later", "_law_reason", "_law_turn"] ["_law_row", "_law_parts_here"] (defScope sOther) := ⟨rfl, rfl, rfl, by decide +kernel, rfl, by decide +kernel, by decide +kernel⟩
theorem other_fin {r : Addr} {H Hk H' : Hp} (R : Ro r H Hk) {x dx : Addr} (nx : Hk x = none) (nd : Hk dx = none) (kp : ∀ b o, (upd (upd Hk dx (.own x)) x (.ins (aO K) dx [])) b = some o → b ≠ x → H' b = some o)
    {k z : V} {kr kw : List (Key × V)} {xs ys : List V} (O : OutAt K (nw (wo x (upd (upd Hk dx (.own x)) x (.ins (aO K) dx []))) H') x k kr kw xs ys z) : Ro r H H' ∧ OutAt K (wo r H') x k kr kw xs ys z := by
  have keep : ∀ {c : Addr} {o : HO}, Hk c = some o → (upd (upd Hk dx (.own x)) x (.ins (aO K) dx [])) c = some o := fun {c o} e => by
    rw [upd_ne (ne_of_none e nx), upd_ne (ne_of_none e nd)]
    exact e
  have s : Same Hk H' := fun c o e => kp c o (keep e) (ne_of_none e nx)
  refine ⟨R.trans (.of R.row s), O.mono fun b o e => ?_⟩
  obtain ⟨e1, e2⟩ := nw_some e
  refine wo_of e2 fun z => ?_
  obtain ⟨ns, hr⟩ := R.row
  rw [z, wo_ne (ne_of_none hr nx), keep hr] at e1
  cases e1
theorem len_x : (("x" : Str)).length = 1 := by decide +kernel
theorem oc_len5 : ∀ o : Oc, (ocS o).length ≤ 5
  | .done => (by decide +kernel : ("done" : Str).length ≤ 5)
  | .retry => (by decide +kernel : ("retry" : Str).length ≤ 5)
  | .undo => (by decide +kernel : ("undo" : Str).length ≤ 5)
  | .fault _ => (by decide +kernel : ("fault" : Str).length ≤ 5)
theorem oc_len (o : Oc) : (ocS o).length + (("x" : Str)).length ≤ sizeLine := by
  have h := oc_len5 o
  rw [len_x, sizeLine_eq]
  omega
theorem oc_x : ∀ o : Oc, ocS o ≠ ocS o ++ ("x" : Str)
  | .done => (by decide +kernel : ("done" : Str) ≠ "done" ++ "x")
  | .retry => (by decide +kernel : ("retry" : Str) ≠ "retry" ++ "x")
  | .undo => (by decide +kernel : ("undo" : Str) ≠ "undo" ++ "x")
  | .fault _ => (by decide +kernel : ("fault" : Str) ≠ "fault" ++ "x")
theorem ok_other (T : Txt K mg) : Pr PP w K mg base CX0 3 (He.ga K "_law_other") ["_law_row", "_law_parts_here"] (spOther K) := by
  refine T.f_law_other.pr scOther (fun _ _ _ _ _ _ us hl => match us, hl with | [_, _], _ => rfl) (fun vs H Q E h => ?_) (fun cdv A outer s H vs Q E hr h => ?_)
  · obtain ⟨r, p, rc, rfl, _⟩ := h
    rfl
  obtain ⟨r, p, rc, rfl, hR, ⟨a1, a2, a3, a4, d0, d1, d2, d3, d4⟩, G, h⟩ := h
  have hu := hu_of hr
  obtain ⟨fdO, FO⟩ := T.m_Outcome
  refine ⟨_, (pss_cons (ps_asg (pv 1) (pg_tup rfl (pgs_cons (pg_name (i := 2) scOther.nd rfl (Or.inl rfl)) (pgs_cons (pg_name (i := 3) scOther.nd rfl (Or.inl rfl)) (pgs_cons (pg_name (i := 4) scOther.nd rfl (Or.inl rfl)) (pgs_cons (pg_name (i := 5) scOther.nd rfl (Or.inl rfl)) (pgs_cons (pg_name (i := 6) scOther.nd rfl (Or.inl rfl)) (pgs_cons (pg_name (i := 7) scOther.nd rfl (Or.inl rfl)) pgs_nil))))))))
      (pss_cons (ps_set (i := 8) scOther.nd rfl (Or.inl rfl) (pe_callP (ok_take T) (hr.mono (by omega)) rfl (T.glo _ (by decide +kernel)) pass0 (pa_cons (pv 0) (pa_cons (pe_int) pa_nil))))
      (pss_cons (ps_if (pt_cmpR op_eq (pv 8) (pe_int) (nomark _)) (pss_one (ps_set (i := 2) scOther.nd rfl (Or.inl rfl) (pe_op op_add_str (pv 2) pe_str))) pss_nil)
      (pss_cons (ps_if (pt_cmpR op_eq (pv 8) (pe_int) (nomark _)) (pss_cons (ps_set (i := 3) scOther.nd rfl (Or.inl rfl) (pe_callTy call_dictD rfl (T.free _ (by decide +kernel)) (by decide +kernel) (pa_cons (pv 3) pa_nil)))
      (pss_one (ps_dput hu (pv 3) pe_int pe_int rfl))) pss_nil)
      (pss_cons (ps_if (pt_cmpR op_eq (pv 8) (pe_int) (nomark _)) (pss_cons (ps_set (i := 4) scOther.nd rfl (Or.inl rfl) (pe_callTy call_dictD rfl (T.free _ (by decide +kernel)) (by decide +kernel) (pa_cons (pv 4) pa_nil)))
      (pss_one (ps_dput hu (pv 4) pe_int pe_int rfl))) pss_nil)
      (pss_cons (ps_if (pt_cmpR op_eq (pv 8) (pe_int) (nomark _)) (pss_one (ps_set (i := 5) scOther.nd rfl (Or.inl rfl) (pe_op op_cat (pv 5) (pe_lst (pa_cons pe_int pa_nil))))) pss_nil)
      (pss_cons (ps_if (pt_cmpR op_eq (pv 8) (pe_int) (nomark _)) (pss_one (ps_set (i := 6) scOther.nd rfl (Or.inl rfl) (pe_op op_cat (pv 6) (pe_lst (pa_cons pe_int pa_nil))))) pss_nil)
      (pss_one (ps_ret (pe_makeKA (n := 1) T.oMk (ok_oinit T FO) (roomH_of (hr.mono (by omega))) rfl (T.glo _ (by decide +kernel)) (oi_kb5 FO) (pa_cons (pv 2) pa_nil) (pk_cons (pv 3) (pk_cons (pv 4) (pk_cons (pv 5) (pk_cons (pv 6) (pk_cons (pv 7) pk_nil))))))))))))))), ?_⟩
  refine ⟨_, rfl, p, _, rfl, SqT.of (wo_some d0).2, rfl, _, _, rfl, _, _, rfl, _, _, rfl, _, _, rfl, _, _, rfl, _, _, rfl, rfl, ?_⟩
  refine ⟨_, rfl, r, _, rfl, hR, by decide, fun y H1 y0 y1 R1 => ?_⟩
  have e1 := (wo_some (R1.same _ _ d1)).2
  have e2 := (wo_some (R1.same _ _ d2)).2
  have e3 := (wo_some (R1.same _ _ d3)).2
  have e4 := (wo_some (R1.same _ _ d4)).2
  have yy : y = 0 ∨ y = 1 ∨ y = 2 ∨ y = 3 ∨ y = 4 := by omega
  rcases yy with rfl | rfl | rfl | rfl | rfl
  · obtain ⟨o, ho⟩ := G.k
    refine ⟨_, rfl, rfl, _, rfl, if_t (by decide) ⟨_, rfl, _, _, rfl, rfl, (by rw [ho]; exact oc_len o), ?_⟩⟩
    refine ⟨_, rfl, rfl, _, rfl, if_f (by decide) ⟨_, rfl, rfl, _, rfl, if_f (by decide) ⟨_, rfl, rfl, _, rfl, if_f (by decide) ⟨_, rfl, rfl, _, rfl, if_f (by decide) ?_⟩⟩⟩⟩
    refine ⟨_, rfl, _, rfl, _, rfl, _, rfl, _, rfl, _, rfl, rfl, rfl, fun x dx nx nd ne => ?_⟩
    have keep : ∀ {c : Addr} {o : HO}, H1 c = some o → (upd (upd H1 dx (.own x)) x (.ins (aO K) dx [])) c = some o := fun {c o} e => by
      rw [upd_ne (ne_of_none e nx), upd_ne (ne_of_none e nd)]
      exact e
    refine ⟨x, dx, a1, a2, a3, a4, _, _, _, _, _, _, rfl, upd_same, keep e1, keep e2, keep e3, keep e4, fun H' kp O => ⟨rfl, ?_⟩⟩
    obtain ⟨q1, q2⟩ := other_fin R1 nx nd kp O
    exact h x { rc with k := rc.k ++ ("x" : Str) } H' q1 q2 rfl fun t f hf => .inl ⟨by rw [ho]; exact oc_x o, hf⟩
  · refine ⟨_, rfl, rfl, _, rfl, if_f (by decide) ⟨_, rfl, rfl, _, rfl, if_t (by decide) ?_⟩⟩
    refine ⟨_, rfl, a1, _, rfl, .inl e1, fun p1 np1 => ⟨_, rfl, p1, _, rfl, DPut.k (k := Sum.inl 99) upd_same (kvI_line G.rd), ?_⟩⟩
    rw [upd_upd, putK_kv, cl_99 G.rd]
    have R2 := R1.new np1 (.dK (kvI (rc.rd ++ [(99, 1)])))
    have st := sm_upd np1 (.dK (kvI (rc.rd ++ [(99, 1)])))
    generalize hK : upd H1 p1 (.dK (kvI (rc.rd ++ [(99, 1)]))) = HK at R2 st
    have e5 : HK p1 = some (.dK (kvI (rc.rd ++ [(99, 1)]))) := by rw [← hK, upd_same]
    refine ⟨_, rfl, rfl, _, rfl, if_f (by decide) ⟨_, rfl, rfl, _, rfl, if_f (by decide) ⟨_, rfl, rfl, _, rfl, if_f (by decide) ?_⟩⟩⟩
    refine ⟨_, rfl, _, rfl, _, rfl, _, rfl, _, rfl, _, rfl, rfl, rfl, fun x dx nx nd ne => ?_⟩
    have keep : ∀ {c : Addr} {o : HO}, HK c = some o → (upd (upd HK dx (.own x)) x (.ins (aO K) dx [])) c = some o := fun {c o} e => by
      rw [upd_ne (ne_of_none e nx), upd_ne (ne_of_none e nd)]
      exact e
    refine ⟨x, dx, p1, a2, a3, a4, _, _, _, _, _, _, rfl, upd_same, (keep e5), (keep (st _ _ e2)), (keep (st _ _ e3)), (keep (st _ _ e4)), fun H' kp O => ⟨rfl, ?_⟩⟩
    obtain ⟨q1, q2⟩ := other_fin R2 nx nd kp O
    exact h x { rc with rd := rc.rd ++ [(99, 1)] } H' q1 q2 rfl fun t f hf => .inr ⟨rfl, .inl ⟨(by rw [List.length_append]; show rc.rd.length ≠ rc.rd.length + 1; omega), hf⟩⟩
  · refine ⟨_, rfl, rfl, _, rfl, if_f (by decide) ⟨_, rfl, rfl, _, rfl, if_f (by decide) ⟨_, rfl, rfl, _, rfl, if_t (by decide) ?_⟩⟩⟩
    refine ⟨_, rfl, a2, _, rfl, .inl e2, fun p1 np1 => ⟨_, rfl, p1, _, rfl, DPut.k (k := Sum.inl 99) upd_same (kvI_line G.wr), ?_⟩⟩
    rw [upd_upd, putK_kv, cl_99 G.wr]
    have R2 := R1.new np1 (.dK (kvI (rc.wr ++ [(99, 1)])))
    have st := sm_upd np1 (.dK (kvI (rc.wr ++ [(99, 1)])))
    generalize hK : upd H1 p1 (.dK (kvI (rc.wr ++ [(99, 1)]))) = HK at R2 st
    have e5 : HK p1 = some (.dK (kvI (rc.wr ++ [(99, 1)]))) := by rw [← hK, upd_same]
    refine ⟨_, rfl, rfl, _, rfl, if_f (by decide) ⟨_, rfl, rfl, _, rfl, if_f (by decide) ?_⟩⟩
    refine ⟨_, rfl, _, rfl, _, rfl, _, rfl, _, rfl, _, rfl, rfl, rfl, fun x dx nx nd ne => ?_⟩
    have keep : ∀ {c : Addr} {o : HO}, HK c = some o → (upd (upd HK dx (.own x)) x (.ins (aO K) dx [])) c = some o := fun {c o} e => by
      rw [upd_ne (ne_of_none e nx), upd_ne (ne_of_none e nd)]
      exact e
    refine ⟨x, dx, a1, p1, a3, a4, _, _, _, _, _, _, rfl, upd_same, (keep (st _ _ e1)), (keep e5), (keep (st _ _ e3)), (keep (st _ _ e4)), fun H' kp O => ⟨rfl, ?_⟩⟩
    obtain ⟨q1, q2⟩ := other_fin R2 nx nd kp O
    exact h x { rc with wr := rc.wr ++ [(99, 1)] } H' q1 q2 rfl fun t f hf => .inr ⟨rfl, .inr ⟨rfl, .inl ⟨(by rw [List.length_append]; show rc.wr.length ≠ rc.wr.length + 1; omega), hf⟩⟩⟩
  · refine ⟨_, rfl, rfl, _, rfl, if_f (by decide) ⟨_, rfl, rfl, _, rfl, if_f (by decide) ⟨_, rfl, rfl, _, rfl, if_f (by decide) ⟨_, rfl, rfl, _, rfl, if_t (by decide) ?_⟩⟩⟩⟩
    have hz : (rc.fi.map V.int).length + 1 ≤ sizeLine := by
      rw [List.length_map]
      exact small_line (by have := G.fi; have := G.la; omega)
    refine ⟨_, rfl, (by show 1 ≤ sizeLine; decide), fun p1 np1 => ⟨a3, p1, _, _, rfl, rfl, sm_upd np1 _ _ _ e3, upd_same, hz, fun p2 np2 => ?_⟩⟩
    have eM : rc.fi.map V.int ++ [V.int 1] = (rc.fi ++ [1]).map V.int := by rw [List.map_append]; rfl
    rw [eM]
    have R2 := (R1.new np1 (.lst [.int 1])).new np2 (.lst ((rc.fi ++ [1]).map V.int))
    have st := (sm_upd np1 (.lst [.int 1])).trans (sm_upd np2 (.lst ((rc.fi ++ [1]).map V.int)))
    generalize hK : upd (upd H1 p1 (.lst [.int 1])) p2 (.lst ((rc.fi ++ [1]).map V.int)) = HK at R2 st
    have e5 : HK p2 = some (.lst ((rc.fi ++ [1]).map V.int)) := by rw [← hK, upd_same]
    refine ⟨_, rfl, rfl, _, rfl, if_f (by decide) ?_⟩
    refine ⟨_, rfl, _, rfl, _, rfl, _, rfl, _, rfl, _, rfl, rfl, rfl, fun x dx nx nd ne => ?_⟩
    have keep : ∀ {c : Addr} {o : HO}, HK c = some o → (upd (upd HK dx (.own x)) x (.ins (aO K) dx [])) c = some o := fun {c o} e => by
      rw [upd_ne (ne_of_none e nx), upd_ne (ne_of_none e nd)]
      exact e
    refine ⟨x, dx, a1, a2, p2, a4, _, _, _, _, _, _, rfl, upd_same, (keep (st _ _ e1)), (keep (st _ _ e2)), (keep e5), (keep (st _ _ e4)), fun H' kp O => ⟨rfl, ?_⟩⟩
    obtain ⟨q1, q2⟩ := other_fin R2 nx nd kp O
    exact h x { rc with fi := rc.fi ++ [1] } H' q1 q2 rfl fun t f hf => .inr ⟨rfl, .inr ⟨rfl, .inr ⟨rfl, .inl ⟨(by rw [List.length_append]; show rc.fi.length ≠ rc.fi.length + 1; omega), hf⟩⟩⟩⟩
  · refine ⟨_, rfl, rfl, _, rfl, if_f (by decide) ⟨_, rfl, rfl, _, rfl, if_f (by decide) ⟨_, rfl, rfl, _, rfl, if_f (by decide) ⟨_, rfl, rfl, _, rfl, if_f (by decide) ⟨_, rfl, rfl, _, rfl, if_t (by decide) ?_⟩⟩⟩⟩⟩
    have hz : (rc.la.map V.int).length + 1 ≤ sizeLine := by
      rw [List.length_map]
      exact small_line (by have := G.fi; have := G.la; omega)
    refine ⟨_, rfl, (by show 1 ≤ sizeLine; decide), fun p1 np1 => ⟨a4, p1, _, _, rfl, rfl, sm_upd np1 _ _ _ e4, upd_same, hz, fun p2 np2 => ?_⟩⟩
    have eM : rc.la.map V.int ++ [V.int 1] = (rc.la ++ [1]).map V.int := by rw [List.map_append]; rfl
    rw [eM]
    have R2 := (R1.new np1 (.lst [.int 1])).new np2 (.lst ((rc.la ++ [1]).map V.int))
    have st := (sm_upd np1 (.lst [.int 1])).trans (sm_upd np2 (.lst ((rc.la ++ [1]).map V.int)))
    generalize hK : upd (upd H1 p1 (.lst [.int 1])) p2 (.lst ((rc.la ++ [1]).map V.int)) = HK at R2 st
    have e5 : HK p2 = some (.lst ((rc.la ++ [1]).map V.int)) := by rw [← hK, upd_same]
    refine ?_
    refine ⟨_, rfl, _, rfl, _, rfl, _, rfl, _, rfl, _, rfl, rfl, rfl, fun x dx nx nd ne => ?_⟩
    have keep : ∀ {c : Addr} {o : HO}, HK c = some o → (upd (upd HK dx (.own x)) x (.ins (aO K) dx [])) c = some o := fun {c o} e => by
      rw [upd_ne (ne_of_none e nx), upd_ne (ne_of_none e nd)]
      exact e
    refine ⟨x, dx, a1, a2, a3, p2, _, _, _, _, _, _, rfl, upd_same, (keep (st _ _ e1)), (keep (st _ _ e2)), (keep (st _ _ e3)), (keep e5), fun H' kp O => ⟨rfl, ?_⟩⟩
    obtain ⟨q1, q2⟩ := other_fin R2 nx nd kp O
    exact h x { rc with la := rc.la ++ [1] } H' q1 q2 rfl fun t f hf => .inr ⟨rfl, .inr ⟨rfl, .inr ⟨rfl, .inr ⟨rfl, .inl ⟨(by rw [List.length_append]; show rc.la.length ≠ rc.la.length + 1; omega), hf⟩⟩⟩⟩⟩
/-! ### the law -/
/-- what the law has built -/
structure LA (r q nm am : Addr) (b : List Sm) (x y : Int) (mem : List Int) (H : Hp) : Prop where
  row : RowAt H r
  body : BodyAt H (SmAt H 3) b q
  names : NamesAt H nm x y
  memo : H am = some (.lst (mem.map V.int))
theorem LA.mono {r q nm am : Addr} {b : List Sm} {x y : Int} {mem : List Int} {H H' : Hp} (L : LA r q nm am b x y mem H) (s : Same H H') : LA r q nm am b x y mem H' :=
  ⟨L.row.keep s, L.body.mono s fun u v z => SmAt.mono s 3 u v z, L.names.mono s, s _ _ L.memo⟩
theorem wx_low {av : List Addr} {H : Hp} : Same (wx av H) H := fun _ _ e => (wx_some e).2
theorem wo_low {r : Addr} {H : Hp} : Same (wo r H) H := fun _ _ e => (wo_some e).2
theorem wo_up {r : Addr} {H H' : Hp} (s : Same H H') : Same (wo r H) (wo r H') := fun b o e => wo_of (s _ _ (wo_some e).2) (wo_some e).1
theorem nw_wo {r : Addr} {H H' : Hp} (h : RowAt H r) : Same (nw H H') (wo r H') := fun b o e => by
  obtain ⟨ns, hr⟩ := h
  refine wo_of (nw_some e).2 fun z => ?_
  have q := (nw_some e).1
  rw [z, hr] at q
  cases q
theorem eqW_ints {H : Hp} {n : Nat} : ∀ l : List Int, Paired (EqW K H (n + 1)) (l.map V.int) (l.map V.int)
  | [] => .nil
  | z :: l => .cons (.inl ⟨rfl, rfl⟩) (eqW_ints l)
theorem eqW_refs {H : Hp} {n : Nat} : ∀ vs : List V, (∀ v ∈ vs, ∃ a, v = .ref a) → Paired (EqW K H (n + 1)) vs vs
  | [], _ => .nil
  | v :: vs, h => .cons ((h v List.mem_cons_self).elim fun a e => .inr (.inl ⟨a, e, e⟩)) (eqW_refs vs fun u hu => h u (List.mem_cons_of_mem _ hu))
theorem due_eq {H : Hp} {p q : Addr} {rc : Rec} (G : RecG rc) (h1 : DueAt H p rc) (h2 : DueAt H q rc) : ∃ xs ys, SqT K H p xs ∧ SqT K H q ys ∧ Paired (EqW K H 2) xs ys := by
  obtain ⟨a1, a2, a3, a4, d0, d1, d2, d3, d4⟩ := h1
  obtain ⟨b1, b2, b3, b4, e0, e1, e2, e3, e4⟩ := h2
  refine ⟨_, _, SqT.of d0, SqT.of e0, .cons (.inl ⟨rfl, rfl⟩) (.cons (.inr (.inr (.inr (.inr ⟨a1, b1, _, rfl, rfl, d1, e1, kvI_nodup G.rd.nd, kvI_flat⟩)))) (.cons (.inr (.inr (.inr (.inr ⟨a2, b2, _, rfl, rfl, d2, e2, kvI_nodup G.wr.nd, kvI_flat⟩))))
    (.cons (.inr (.inr (.inl ⟨a3, b3, _, _, rfl, rfl, SqL.of d3, SqL.of e3, eqW_ints _⟩))) (.cons (.inr (.inr (.inl ⟨a4, b4, _, _, rfl, rfl, SqL.of d4, SqL.of e4, eqW_ints _⟩))) (.cons (.inl ⟨rfl, ?_⟩) .nil)))))⟩
  rcases G.re with e | ⟨z, e⟩ <;> rw [e] <;> rfl
theorem cells_eq {H : Hp} {a c : Addr} (h1 : CellsAt H a) (h2 : CellsAt H c) : EqW K H 3 (.ref a) (.ref c) := by
  obtain ⟨t1, t2, t3, c0, c1, c2, c3⟩ := h1
  obtain ⟨u1, u2, u3, d0, d1, d2, d3⟩ := h2
  have tp : ∀ {t u : Addr} {z1 z2 z3 : V}, H t = some (.tup [z1, z2, z3]) → H u = some (.tup [z1, z2, z3]) → flatB z1 = true → flatB z2 = true → flatB z3 = true → EqW K H 2 (.ref t) (.ref u) := fun e1 e2 f1 f2 f3 =>
    .inr (.inr (.inr (.inl ⟨_, _, _, _, rfl, rfl, SqT.of e1, SqT.of e2, .cons (.inl ⟨rfl, f1⟩) (.cons (.inl ⟨rfl, f2⟩) (.cons (.inl ⟨rfl, f3⟩) .nil))⟩)))
  exact .inr (.inr (.inl ⟨a, c, _, _, rfl, rfl, SqL.of c0, SqL.of d0, .cons (tp c1 d1 rfl rfl rfl) (.cons (tp c2 d2 rfl rfl rfl) (.cons (tp c3 d3 rfl rfl rfl) .nil))⟩))
theorem sm_ref {G : Hp} {n : Nat} {s : Sm} {v : V} (h : SmAt G n s v) : ∃ a, v = .ref a := by
  cases s <;> cases n <;> first | exact h.elim | (obtain ⟨a, e, _⟩ := h; exact ⟨a, e⟩) | (obtain ⟨a, _, e, _⟩ := h; exact ⟨a, e⟩) | (obtain ⟨a, _, _, e, _⟩ := h; exact ⟨a, e⟩) | (obtain ⟨a, _, _, _, e, _⟩ := h; exact ⟨a, e⟩)
theorem paired_refs {G : Hp} {n : Nat} : ∀ {b : List Sm} {vs : List V}, Paired (SmAt G n) b vs → ∀ v ∈ vs, ∃ a, v = .ref a
  | _, _, .nil, v, h => by cases h
  | _, _, .cons a t, v, h => by
    rcases List.mem_cons.mp h with e | e
    · rw [e]; exact sm_ref a
    · exact paired_refs t v e
def spLaw (K : PySem.W.Frag) : Sp := fun vs H Q _ => ∃ (a : Addr) (ns : List Int), vs = [.ref a] ∧ SqL K H a (ns.map V.int) ∧ ns.length ≤ 63 ∧ ∀ H', Q (.bl true) H'
theorem scLaw : FnScope ["_law_script", "_law_row", "_law_names", "_law_body_here", "_law_memory_here", "_law_due", "_law_given", "_law_outcome_here", "_law_again"] ["_law_script"] (defScope sLaw) := ⟨rfl, rfl, rfl, by decide +kernel, rfl, by decide +kernel, by decide +kernel⟩
theorem funD_calm {P : Program} {x qual : Str} {st : Stmt} {f : Addr} {fd : FuncData} {N ps : List Str} {k : Nat} {sp : Sp} (F : FunD K x qual (defArgs st) (defBody st) (defScope st) [] [] f fd) (S : FnScope N ps (defScope st)) (len : ∀ vs H Q E, sp vs H Q E → vs.length = ps.length)
    (body : ∀ (cdv : Value) (A : Around) (outer : List Env) (s : Shared) (H : Hp) (vs : List V) (Q : VK) (E : XK), Room k (A.deeper (envOfC qual (defScope st) s.heap.objs.size f cdv)) → sp vs H Q E →
      ∃ t, PSs (cxOf CX0 P w K mg base N qual (defScope st) f cdv A outer s H E).nox (defBody st) t ∧ t { nx := fun _ H' => Q .non H', rt := Q } (start N vs) H) : FnOk P w K mg base CX0 (k + 1) f fd ps sp :=
  F.ok S len fun cdv A outer s H vs Q E hr h => (body cdv A outer s H vs Q E hr h).elim fun t z => ⟨t, z.1.nox, z.2⟩
theorem ok_law (T : Txt K mg) (S : SupTxt K) {fd : FuncData} (F : FunD K "law" "law" (defArgs sLaw) (defBody sLaw) (defScope sLaw) [] [] (He.ga K "law") fd) : FnOk PP w K mg base CX0 25 (He.ga K "law") fd ["_law_script"] (spLaw K) := by
  refine funD_calm F scLaw (fun vs H Q E h => ?_) (fun cdv A outer s H vs Q E hr h => ?_)
  · obtain ⟨a, ns, rfl, _⟩ := h
    rfl
  obtain ⟨a, ns, rfl, hS, hl, h⟩ := h
  have hu64 := hr.units
  refine ⟨_, (pss_cons (ps_set (i := 1) scLaw.nd rfl (Or.inl rfl) (pe_callP (ok_numbers T) (hr.mono (by omega)) rfl (T.glo _ (by decide +kernel)) pass0 (pa_cons (pv 0) (pa_cons (pe_int) pa_nil))))
      (pss_cons (ps_set (i := 2) scLaw.nd rfl (Or.inl rfl) (pe_lst (pa_cons (pe_tup (pa_cons (pe_str) (pa_cons (pe_callP (ok_number T) (hr.mono (by omega)) rfl (T.glo _ (by decide +kernel)) pass0 (pa_cons (pv 1) pa_nil)) pa_nil))) (pa_cons (pe_tup (pa_cons (pe_str) (pa_cons (pe_callP (ok_number T) (hr.mono (by omega)) rfl (T.glo _ (by decide +kernel)) pass0 (pa_cons (pv 1) pa_nil)) pa_nil))) pa_nil))))
      (pss_cons (ps_set (i := 3) scLaw.nd rfl (Or.inl rfl) (pe_callP (ok_body T 4) (hr.mono (by omega)) rfl (T.glo _ (by decide +kernel)) pass0 (pa_cons (pv 1) (pa_cons (pe_int) (pa_cons (pe_lst (pa_cons (pe_str) (pa_cons (pe_str) pa_nil))) (pa_cons (pe_int) pa_nil))))))
      (pss_cons (ps_set (i := 4) scLaw.nd rfl (Or.inl rfl) (pe_callP (ok_memory T) (hr.mono (by omega)) rfl (T.glo _ (by decide +kernel)) pass0 (pa_cons (pv 1) pa_nil)))
      (pss_cons (ps_set (i := 5) scLaw.nd rfl (Or.inl rfl) (pe_callP (ok_lOutcome T) (hr.mono (by omega)) rfl (T.glo _ (by decide +kernel)) pass0 (pa_cons (pv 3) (pa_cons (pe_callP0 (ok_cells T) (hr.mono (by omega)) rfl (T.glo _ (by decide +kernel)) pass0) (pa_cons (pv 2) (pa_cons (pe_callTy call_list_of rfl (T.free _ (by decide +kernel)) (by decide +kernel) (pa_cons (pv 4) pa_nil)) pa_nil))))))
      (pss_cons (ps_set (i := 6) scLaw.nd rfl (Or.inl rfl) (pe_tup (pa_cons (pe_callTy call_list_of rfl (T.free _ (by decide +kernel)) (by decide +kernel) (pa_cons (pv 3) pa_nil)) (pa_cons (pe_callP0 (ok_cells T) (hr.mono (by omega)) rfl (T.glo _ (by decide +kernel)) pass0) (pa_cons (pe_callTy call_list_of rfl (T.free _ (by decide +kernel)) (by decide +kernel) (pa_cons (pv 2) pa_nil)) (pa_cons (pe_callTy call_list_of rfl (T.free _ (by decide +kernel)) (by decide +kernel) (pa_cons (pv 4) pa_nil)) pa_nil))))))
      (pss_cons (ps_set (i := 7) scLaw.nd rfl (Or.inl rfl) (pe_callP (ok_run_block T S) (hr.mono (by omega)) rfl (T.glo _ (by decide +kernel)) pass0 (pa_cons (pe_ix ix_tup (pv 6) pe_int (fun _ _ => rfl)) (pa_cons (pe_ix ix_tup (pv 6) pe_int (fun _ _ => rfl)) (pa_cons (pe_ix ix_tup (pv 6) pe_int (fun _ _ => rfl)) (pa_cons (pe_ix ix_tup (pv 6) pe_int (fun _ _ => rfl)) pa_nil))))))
      (pss_cons (ps_if (PW.pt (pw_or (pt_cmpR (op_neT hu64) (pe_callP (ok_lParts T) (hr.mono (by omega)) rfl (T.glo _ (by decide +kernel)) pass0 (pa_cons (pv 7) pa_nil)) (pv 5) (nomark _)) (pw_or1 (pt_cmpR (op_neT hu64) (pv 6) (pe_tup (pa_cons (pv 3) (pa_cons (pe_callP0 (ok_cells T) (hr.mono (by omega)) rfl (T.glo _ (by decide +kernel)) pass0) (pa_cons (pv 2) (pa_cons (pv 4) pa_nil))))) (nomark _))))) (pss_one (ps_ret (pe_bl))) pss_nil)
      (pss_cons (ps_set (i := 8) scLaw.nd rfl (Or.inl rfl) (pe_callP (ok_run_block T S) (hr.mono (by omega)) rfl (T.glo _ (by decide +kernel)) pass0 (pa_cons (pv 3) (pa_cons (pe_callP0 (ok_cells T) (hr.mono (by omega)) rfl (T.glo _ (by decide +kernel)) pass0) (pa_cons (pv 2) (pa_cons (pv 4) pa_nil))))))
      (pss_cons (ps_if (pt_cmpR op_notBl (pe_callP (ok_same T) (hr.mono (by omega)) rfl (T.glo _ (by decide +kernel)) pass0 (pa_cons (pv 7) (pa_cons (pv 8) pa_nil))) pe_bl (nomark _)) (pss_one (ps_ret (pe_bl))) pss_nil)
      (pss_one (ps_ret (pe_cmpR op_isBl (pe_callP (ok_same T) (hr.mono (by omega)) rfl (T.glo _ (by decide +kernel)) pass0 (pa_cons (pv 7) (pa_cons (pe_callP (ok_other T) (hr.mono (by omega)) rfl (T.glo _ (by decide +kernel)) pass0 (pa_cons (pv 1) (pa_cons (pe_callP (ok_lParts T) (hr.mono (by omega)) rfl (T.glo _ (by decide +kernel)) pass0 (pa_cons (pv 7) pa_nil)) pa_nil))) pa_nil))) pe_bl (nomark _)))))))))))))), ?_⟩
  have four : 4 ≤ sizeLine := by decide
  refine ⟨_, rfl, a, 150, ns, rfl, hS, hl, by decide, by decide, fun r H1 s1 hR1 => ?_⟩
  refine ⟨_, rfl, r, rfl, hR1, fun x H2 ox R2 => ⟨two_line, fun t1 n1 => ⟨_, rfl, r, rfl, (R2.new n1 _).row, fun y H3 oy R3 => ⟨two_line, fun t2 n2 => ⟨two_line, fun nm nn => ?_⟩⟩⟩⟩⟩
  have w1 := R3.same _ _ (wo_new (o := .tup [.str "x", .int x]) R2.row n1)
  have A2 : Ro r H3 (upd H3 t2 (.tup [.str "y", .int y])) := .of R3.row (sm_upd n2 _)
  have w2 := wo_new (o := .tup [.str "y", .int y]) R3.row n2
  have A3 : Ro r _ (upd (upd H3 t2 (.tup [.str "y", .int y])) nm (.lst [.ref t1, .ref t2])) := .of A2.row (sm_upd nn _)
  have w3 := wo_new (o := .lst [.ref t1, .ref t2]) A2.row nn
  have N3 : NamesAt (wo r (upd (upd H3 t2 (.tup [.str "y", .int y])) nm (.lst [.ref t1, .ref t2]))) nm x y := ⟨t1, t2, w3, A3.same _ _ (A2.same _ _ w1), A3.same _ _ w2⟩
  refine ⟨_, rfl, two_line, fun xy nxy => ?_⟩
  have A4 : Ro r _ (upd (upd (upd H3 t2 (.tup [.str "y", .int y])) nm (.lst [.ref t1, .ref t2])) xy (.lst [.str "x", .str "y"])) := .of A3.row (sm_upd nxy _)
  have w4 := wo_new (o := .lst [.str "x", .str "y"]) A3.row nxy
  refine ⟨r, xy, 2, rfl, A4.row, w4, fun b q H4 R4 hb wb => ?_⟩
  refine ⟨_, rfl, r, rfl, R4.row, fun am mem H5 R5 hm mo => ?_⟩
  have L5 : LA r q nm am b x y mem H5 := by
    have hb5 := hb [] (fun _ z => nomatch z)
    refine ⟨R5.row, ?_, ((N3.mono A4.same).mono (R4.same.trans R5.same)).mono wo_low, hm⟩
    exact hb5.mono ((R5.sameX []).trans wx_low) fun u v z => SmAt.mono ((R5.sameX []).trans wx_low) 3 u v z
  have G := blk_good mo ox oy wb
  clear w1 w2 w3 w4 A2 A3 A4 N3 hb hm R5 R4 R3 R2
  -- what is due
  refine ⟨_, rfl, rfl, fun c1 H6 s6 hc1 => ?_⟩
  have L6 := L5.mono s6
  refine ⟨_, rfl, _, rfl, am, _, rfl, .inl (SqL.of L6.memo), fun m1 nm1 => ?_⟩
  have s7 := sm_upd nm1 (.lst (mem.map V.int))
  have L7 := L6.mono s7
  refine ⟨b, q, c1, nm, m1, x, y, mem, rfl, L7.body, wb, hc1.mono s7, L7.names, ox, oy, upd_same, mo, fun pd H8 s8 hdue => ?_⟩
  have L8 := L7.mono s8
  -- what is given
  obtain ⟨vs, hq, hvs⟩ := L8.body
  obtain ⟨t1', t2', k0, k1, k2⟩ := id L8.names
  refine ⟨_, rfl, q, _, rfl, .inl (SqL.of hq), fun lb nlb => ?_⟩
  have s9 := sm_upd nlb (.lst vs)
  refine ⟨rfl, fun c2 H10 s10 hc2 => ⟨_, rfl, nm, _, rfl, .inl (SqL.of (s10 _ _ (s9 _ _ k0))), fun ln nln => ?_⟩⟩
  have s11 := sm_upd nln (.lst [.ref t1', .ref t2'])
  have u10 := s9.trans s10
  have u11 := u10.trans s11
  refine ⟨_, rfl, am, _, rfl, .inl (SqL.of (u11 _ _ L8.memo)), fun lm nlm => ⟨four, fun pg npg => ?_⟩⟩
  have s12 := sm_upd nlm (.lst (mem.map V.int))
  have s13 := sm_upd npg (.tup [.ref lb, .ref c2, .ref ln, .ref lm])
  have u13 := (u11.trans s12).trans s13
  have g0 : (upd (upd (upd H10 ln (.lst [.ref t1', .ref t2'])) lm (.lst (mem.map V.int))) pg (.tup [.ref lb, .ref c2, .ref ln, .ref lm])) lb = some (.lst vs) := s13 _ _ (s12 _ _ (s11 _ _ (s10 _ _ upd_same)))
  have g1 : CellsAt (upd (upd (upd H10 ln (.lst [.ref t1', .ref t2'])) lm (.lst (mem.map V.int))) pg (.tup [.ref lb, .ref c2, .ref ln, .ref lm])) c2 := hc2.mono ((s11.trans s12).trans s13)
  have g2 : (upd (upd (upd H10 ln (.lst [.ref t1', .ref t2'])) lm (.lst (mem.map V.int))) pg (.tup [.ref lb, .ref c2, .ref ln, .ref lm])) ln = some (.lst [.ref t1', .ref t2']) := s13 _ _ (s12 _ _ upd_same)
  have g3 : (upd (upd (upd H10 ln (.lst [.ref t1', .ref t2'])) lm (.lst (mem.map V.int))) pg (.tup [.ref lb, .ref c2, .ref ln, .ref lm])) lm = some (.lst (mem.map V.int)) := s13 _ _ upd_same
  have g4 : (upd (upd (upd H10 ln (.lst [.ref t1', .ref t2'])) lm (.lst (mem.map V.int))) pg (.tup [.ref lb, .ref c2, .ref ln, .ref lm])) pg = some (.tup [.ref lb, .ref c2, .ref ln, .ref lm]) := upd_same
  generalize (upd (upd (upd H10 ln (.lst [.ref t1', .ref t2'])) lm (.lst (mem.map V.int))) pg (.tup [.ref lb, .ref c2, .ref ln, .ref lm])) = H13 at g0 g1 g2 g3 g4 u13 ⊢
  have L13 := L8.mono u13
  -- the run
  refine ⟨_, rfl, pg, _, _, _, rfl, rfl, SqT.of g4, a0, _, rfl, pg, _, _, _, rfl, rfl, SqT.of g4, a1, _, rfl, pg, _, _, _, rfl, rfl, SqT.of g4, a2, _, rfl, pg, _, _, _, rfl, rfl, SqT.of g4, a3, ?_⟩
  refine ⟨b, lb, c2, ln, lm, x, y, mem, rfl, ⟨vs, g0, Paired.mapP hvs fun u v z => SmAt.mono u13 3 u v z⟩, wb, g1, ⟨t1', t2', g2, u13 _ _ k1, u13 _ _ k2⟩, ox, oy, g3, mo, fun ao H14 s14 nao hO => ?_⟩
  have L14 := L13.mono s14
  -- the parts are as due
  refine ⟨_, rfl, ao, _, H14, rfl, .refl _, hO.mono nw_low, fun pp o npp hpp => ?_⟩
  have s15 := sm_upd npp o
  have hdue15 := hdue.mono ((u13.trans s14).trans s15)
  obtain ⟨xs, ys, e1, e2, e3⟩ := due_eq (K := K) G hpp hdue15
  refine ⟨_, rfl, 2, pp, pd, xs, ys, by decide, rfl, rfl, e1, e2, e3, _, rfl, if_f rfl ?_⟩
  -- what was given is as it was
  refine ⟨_, rfl, _, rfl, rfl, fun c3 H16 s16 hc3 => ⟨_, rfl, _, rfl, four, fun pt npt => ?_⟩⟩
  have s17 := sm_upd npt (.tup [.ref q, .ref c3, .ref nm, .ref am])
  have u17 := ((s14.trans s15).trans s16).trans s17
  have L17 := L13.mono u17
  have hq17 := u17 _ _ (u13 _ _ hq)
  have k17 := u17 _ _ (u13 _ _ k0)
  refine ⟨3, pg, pt, _, _, by decide, rfl, rfl, SqT.of (u17 _ _ g4), SqT.of upd_same, .cons (.inr (.inr (.inl ⟨lb, q, vs, vs, rfl, rfl, SqL.of (u17 _ _ g0), SqL.of hq17, eqW_refs vs (paired_refs hvs)⟩)))
    (.cons (cells_eq (g1.mono u17) (hc3.mono s17)) (.cons (.inr (.inr (.inl ⟨ln, nm, _, _, rfl, rfl, SqL.of (u17 _ _ g2), SqL.of k17, eqW_refs _ (fun v hv => ?_)⟩))) (.cons (.inr (.inr (.inl ⟨lm, am, _, _, rfl, rfl, SqL.of (u17 _ _ g3), SqL.of L17.memo, eqW_ints _⟩))) .nil))), _, rfl, if_f rfl ?_⟩
  · rcases List.mem_cons.mp hv with e | e
    · exact ⟨_, e⟩
    · rw [List.mem_singleton] at e
      exact ⟨_, e⟩
  -- again
  refine ⟨_, rfl, rfl, fun c4 H18 s18 hc4 => ⟨_, rfl, _, rfl, ?_⟩⟩
  have L18 := L17.mono s18
  refine ⟨b, q, c4, nm, am, x, y, mem, rfl, L18.body, wb, hc4, L18.names, ox, oy, L18.memo, mo, fun ag H19 s19 nag hO2 => ?_⟩
  have u19 : Same H14 H19 := (((s15.trans s16).trans s17).trans s18).trans s19
  have L19 := L14.mono u19
  refine ⟨_, rfl, _, rfl, ao, ag, _, _, rfl, (hO.mono nw_low).mono u19, hO2.mono nw_low, G.ok, rfl, .inr ⟨rfl, .inr ⟨rfl, .inr ⟨rfl, .inr ⟨rfl, .inr ⟨rfl, ?_⟩⟩⟩⟩⟩⟩
  refine ⟨true, true, rfl, rfl, _, rfl, if_f (by decide) ?_⟩
  -- the other one
  have O19 : OutR K (wo r H19) ao (blkR mem x y b) := (hO.mono (nw_wo L13.row)).mono (wo_up u19)
  refine ⟨_, rfl, _, rfl, _, rfl, ao, _, wo r H19, rfl, wo_low, O19, fun p2 o2 np2 hp2 => ?_⟩
  have s20 := sm_upd np2 o2
  have p2r := L19.row.ne np2
  refine ⟨r, p2, _, rfl, L19.row.keep s20, hp2.mono fun c u e => ?_, G, fun a2' rc' H21 R21 hO3 hre ht => ?_⟩
  · by_cases z : c = p2
    · rw [z, upd_same] at e
      rw [z]
      exact wo_of (upd_same.trans e) p2r
    · rw [upd_ne z] at e
      exact wo_of ((upd_ne z).trans (wo_some e).2) (wo_some e).1
  · refine ⟨ao, a2', _, rc', rfl, ((O19.mono (wo_up s20)).mono R21.same).mono wo_low, hO3.mono wo_low, G.ok, hre.symm, ht _ _ ?_⟩
    exact ⟨false, false, rfl, rfl, h _⟩
end
end K13
set_option Elab.async false
set_option linter.all false
set_option maxRecDepth 100000
set_option maxHeartbeats 0
/-! K13Head: the facts, read off the run of the top (printed by gen_head.py). -/
namespace K13
open PySem PySem.Spec PyProof.Rows L2
def fa : List He.Fa := [.glo "HandshakerError",
  .glo "Fault",
  .glo "checked",
  .glo "place_of",
  .glo "cell_number",
  .glo "combined",
  .glo "Reader",
  .glo "Outcome",
  .glo "same_outcome",
  .glo "ended",
  .glo "BlockRunner",
  .glo "run_block",
  .glo "_law_mix",
  .glo "_law_numbers",
  .glo "_law_take",
  .glo "_law_number",
  .glo "_law_exp",
  .glo "_law_index",
  .glo "_law_cells",
  .glo "_law_in_range",
  .glo "_law_two",
  .glo "_law_value",
  .glo "_law_place",
  .glo "_law_read",
  .glo "_law_new",
  .glo "_law_body",
  .glo "_law_statement",
  .glo "_law_memory",
  .glo "_law_runs",
  .glo "_law_run_one",
  .glo "_law_chosen",
  .glo "_law_outcome",
  .glo "_law_parts",
  .glo "_law_other",
  .glo "law",
  .free "int",
  .free "range",
  .free "len",
  .free "dict",
  .free "list",
  .free "super",
  .int "MOST_VALUE" 1000000000,
  .int "MOST_COUNT" 20,
  .exm "Fault" "Fault" true,
  .noat "Fault" "reason",
  .cls "BlockRunner",
  .noat "BlockRunner" "locals_now",
  .noat "BlockRunner" "cells",
  .noat "BlockRunner" "memory",
  .noat "BlockRunner" "reads",
  .noat "BlockRunner" "writes",
  .noat "BlockRunner" "later",
  .meth "BlockRunner" "value",
  .meth "BlockRunner" "read",
  .meth "BlockRunner" "run",
  .meth "BlockRunner" "run_one",
  .meth "BlockRunner" "run_repeat",
  .meth "BlockRunner" "run_choose",
  .mkr "BlockRunner",
  .cls "Outcome",
  .noat "Outcome" "kind",
  .noat "Outcome" "reads",
  .noat "Outcome" "writes",
  .noat "Outcome" "finals",
  .noat "Outcome" "later",
  .noat "Outcome" "reason",
  .mkr "Outcome"]
def fn : List He.DefD := [⟨("checked", none), "checked", "checked", defArgs sChecked, defBody sChecked, defScope sChecked, [], []⟩,
  ⟨("place_of", none), "place_of", "place_of", defArgs sPlaceOf, defBody sPlaceOf, defScope sPlaceOf, [], []⟩,
  ⟨("cell_number", none), "cell_number", "cell_number", defArgs sCellNo, defBody sCellNo, defScope sCellNo, [], []⟩,
  ⟨("combined", none), "combined", "combined", defArgs sCombined, defBody sCombined, defScope sCombined, [], []⟩,
  ⟨("same_outcome", none), "same_outcome", "same_outcome", defArgs sSame, defBody sSame, defScope sSame, [], []⟩,
  ⟨("run_block", none), "run_block", "run_block", defArgs sRunBlock, defBody sRunBlock, defScope sRunBlock, [], []⟩,
  ⟨("_law_mix", none), "_law_mix", "_law_mix", defArgs sMix, defBody sMix, defScope sMix, [], []⟩,
  ⟨("_law_numbers", none), "_law_numbers", "_law_numbers", defArgs sNumbers, defBody sNumbers, defScope sNumbers, [], []⟩,
  ⟨("_law_take", none), "_law_take", "_law_take", defArgs sTake, defBody sTake, defScope sTake, [], []⟩,
  ⟨("_law_number", none), "_law_number", "_law_number", defArgs sNumber, defBody sNumber, defScope sNumber, [], []⟩,
  ⟨("_law_exp", none), "_law_exp", "_law_exp", defArgs sExp, defBody sExp, defScope sExp, [], []⟩,
  ⟨("_law_index", none), "_law_index", "_law_index", defArgs sIndex, defBody sIndex, defScope sIndex, [], []⟩,
  ⟨("_law_cells", none), "_law_cells", "_law_cells", defArgs sCells, defBody sCells, defScope sCells, [], []⟩,
  ⟨("_law_in_range", none), "_law_in_range", "_law_in_range", defArgs sInRange, defBody sInRange, defScope sInRange, [], []⟩,
  ⟨("_law_two", none), "_law_two", "_law_two", defArgs sTwo, defBody sTwo, defScope sTwo, [], []⟩,
  ⟨("_law_value", none), "_law_value", "_law_value", defArgs sLValue, defBody sLValue, defScope sLValue, [], []⟩,
  ⟨("_law_place", none), "_law_place", "_law_place", defArgs sPlace, defBody sPlace, defScope sPlace, [], []⟩,
  ⟨("_law_read", none), "_law_read", "_law_read", defArgs sLRead, defBody sLRead, defScope sLRead, [], []⟩,
  ⟨("_law_new", none), "_law_new", "_law_new", defArgs sNew, defBody sNew, defScope sNew, [], []⟩,
  ⟨("_law_body", none), "_law_body", "_law_body", defArgs sBody, defBody sBody, defScope sBody, [], []⟩,
  ⟨("_law_statement", none), "_law_statement", "_law_statement", defArgs sStatement, defBody sStatement, defScope sStatement, [], []⟩,
  ⟨("_law_memory", none), "_law_memory", "_law_memory", defArgs sMemory, defBody sMemory, defScope sMemory, [], []⟩,
  ⟨("_law_runs", none), "_law_runs", "_law_runs", defArgs sRuns, defBody sRuns, defScope sRuns, [], []⟩,
  ⟨("_law_run_one", none), "_law_run_one", "_law_run_one", defArgs sLRunOne, defBody sLRunOne, defScope sLRunOne, [], []⟩,
  ⟨("_law_chosen", none), "_law_chosen", "_law_chosen", defArgs sChosen, defBody sChosen, defScope sChosen, [], []⟩,
  ⟨("_law_outcome", none), "_law_outcome", "_law_outcome", defArgs sOutcome, defBody sOutcome, defScope sOutcome, [], []⟩,
  ⟨("_law_parts", none), "_law_parts", "_law_parts", defArgs sParts, defBody sParts, defScope sParts, [], []⟩,
  ⟨("_law_other", none), "_law_other", "_law_other", defArgs sOther, defBody sOther, defScope sOther, [], []⟩,
  ⟨("law", none), "law", "law", defArgs sLaw, defBody sLaw, defScope sLaw, [], []⟩,
  ⟨("BlockRunner", some "value"), "value", "Reader.value", defArgs sValue, defBody sValue, defScope sValue, [], []⟩,
  ⟨("BlockRunner", some "read"), "read", "BlockRunner.read", defArgs sRead, defBody sRead, defScope sRead, [], []⟩,
  ⟨("BlockRunner", some "run"), "run", "BlockRunner.run", defArgs sRun, defBody sRun, defScope sRun, [], []⟩,
  ⟨("BlockRunner", some "run_one"), "run_one", "BlockRunner.run_one", defArgs sRunOne, defBody sRunOne, defScope sRunOne, [], []⟩,
  ⟨("BlockRunner", some "run_repeat"), "run_repeat", "BlockRunner.run_repeat", defArgs sRepeat, defBody sRepeat, defScope sRepeat, [], []⟩,
  ⟨("BlockRunner", some "run_choose"), "run_choose", "BlockRunner.run_choose", defArgs sChoose, defBody sChoose, defScope sChoose, [], []⟩,
  ⟨("Fault", some "__init__"), "__init__", "Fault.__init__", defArgs sFInit, defBody sFInit, defScope sFInit, [], []⟩,
  ⟨("Reader", some "__init__"), "__init__", "Reader.__init__", defArgs sRInit, defBody sRInit, defScope sRInit, [], []⟩,
  ⟨("Outcome", some "__init__"), "__init__", "Outcome.__init__", defArgs sOInit, defBody sOInit, defScope sOInit, [], [("reason", .non)]⟩,
  ⟨("ended", none), "ended", "ended", defArgs sEnded, defBody sEnded, defScope sEnded, [.non], []⟩]
/-! ### facts of our own -/
/-- Fault as an exception class -/
def oexB (K : PySem.W.Frag) (C : Addr) : Bool := (match K.lookup C with
  | some ⟨.type "type", _, .cls cd, sl⟩ => (match cd.mro, sl.toList with
    | .ref C' :: bm, [_, _, _, _, some (.builtin n), _] => C' == C && n == "ValueError.__new__" && !cd.hasDel && cd.hasDict && PySem.HandSPX.refsVE bm
    | _, _ => false)
  | _ => false) && (He.eqO (PySem.W.findIn K (.ref C) "__setattr__") (some (some (.builtin "object.__setattr__"))) && (decide (PySem.W.subIn K (.ref C) (.type "BaseException") = some true) && (decide (PySem.W.typeIn K (.ref C) = some (.type "type")) && PySem.W.keepIn K (.ref C))))
theorem oexB_ok {K : PySem.W.Frag} {C : Addr} (h : oexB K C = true) : OexC K C := by
  obtain ⟨q, h⟩ := He.ba h
  obtain ⟨h1, h⟩ := He.ba h
  obtain ⟨h2, h⟩ := He.ba h
  obtain ⟨h3, h4⟩ := He.ba h
  refine ⟨?_, He.eqO_ok h1, of_decide_eq_true h2, of_decide_eq_true h3, h4⟩
  split at q
  · rename_i dd cd sl ho
    split at q
    · rename_i C' bm k0 k1 k2 k3 n k5 hm hs
      simp only [Bool.and_eq_true, beq_iff_eq, Bool.not_eq_true'] at q
      obtain ⟨⟨⟨⟨e1, e2⟩, hdel⟩, hdct⟩, ht⟩ := q
      subst e1 e2
      obtain ⟨nm, bs, mro, ns, qn, hd, sn, sub, ab, col, del⟩ := cd
      dsimp only at hm hdel hdct
      subst hm hdel hdct
      have hsl : sl = #[k0, k1, k2, k3, some (.builtin "ValueError.__new__"), k5] := by
        obtain ⟨l⟩ := sl
        simp only at hs
        rw [hs]
      subst hsl
      exact ⟨nm, qn, ns, bs, bm, sn, sub, ab, col, dd, k0, k1, k2, k3, k5, ho, ht⟩
    · cases q
  · cases q
abbrev FnC : Type := Option (Str × Str × Arguments × FuncBody × Scope × Addr × Addr)
def fnC (K : PySem.W.Frag) : FnC := match K.lookup (He.ma K (He.ga K "BlockRunner") "__init__") with
  | some ⟨_, _, .func fd, _⟩ => some (fd.name, fd.qualname, fd.params, fd.body, fd.scope, fd.globals, fd.builtins)
  | _ => none
def fnCval : FnC := some ("__init__", "BlockRunner.__init__", defArgs sBInit, .stmts (defBody sBInit), defScope sBInit, mainGlobals, builtinsNs)
def supB (K : PySem.W.Frag) : Bool := (match K.lookup (He.ma K (He.ga K "BlockRunner") "__init__") with
  | some ⟨_, _, .func fd, _⟩ => (match fd.defaults, fd.closure, fd.code with
    | .none, [(x, cc)], .ref cda => decide (x = "__class__") && (PySem.W.codeIn K (.ref cda) "BlockRunner.__init__" && ((match K.lookup cc with
      | some ⟨_, _, .cell (some (.ref D)), _⟩ => decide (D = He.ga K "BlockRunner")
      | _ => false) && (match K.lookup cda with
      | some ⟨_, _, .fields vs, _⟩ => (match (vs[2]? : Option Value) with
        | some (.str file _) => ((PySem.Challenge.pw_handshaker_k13_whole_blocks.main.file : Str) == file)
        | _ => false)
      | _ => false)))
    | _, _, _ => false)
  | _ => false) && ((PySem.W.clsIn K (He.ga K "BlockRunner")).isSome && (decide (PySem.W.mroIn K (He.ga K "BlockRunner") (.ref (He.ga K "BlockRunner")) = some true) && (He.eqO (PySem.W.ks_superIn K (He.ga K "BlockRunner") (He.ga K "BlockRunner") "__init__") (some (some (.ref (He.ma K (He.ga K "Reader") "__init__")))) &&
    (decide (PySem.W.typeIn K (.ref (He.ma K (He.ga K "Reader") "__init__")) = some (.type "function")) && He.eqO (PySem.W.nsIn K cStatics "thirdparty.any") (some none)))))
theorem supB_ok {K : PySem.W.Frag} (e : fnC K = fnCval) (h : supB K = true) : SupTxt K := by
  obtain ⟨q, h⟩ := He.ba h
  obtain ⟨h1, h⟩ := He.ba h
  obtain ⟨h2, h⟩ := He.ba h
  obtain ⟨h3, h⟩ := He.ba h
  obtain ⟨h4, h5⟩ := He.ba h
  refine ⟨?_, Option.isSome_iff_exists.mp h1, of_decide_eq_true h2, He.eqO_ok h3, of_decide_eq_true h4, He.eqO_ok h5⟩
  unfold fnC at e
  cases lk : K.lookup (He.ma K (He.ga K "BlockRunner") "__init__") with
  | none =>
    rw [lk] at e
    cases e
  | some o =>
    obtain ⟨oc, od, dt, osl⟩ := o
    rw [lk] at q e
    cases dt with
    | func fd =>
      obtain ⟨n1, n2, n3, n4, n5, n6, n7, n8, n9, n10, n11, n12, n13, n14, n15⟩ := fd
      have e2 : (some (n1, n2, n3, n4, n5, n6, n15) : FnC) = fnCval := e
      unfold fnCval at e2
      simp only [Option.some.injEq, Prod.mk.injEq] at e2
      obtain ⟨h1, h2, h3, h4, h5, h6, h9⟩ := e2
      subst h1 h2 h3 h4 h5 h6 h9
      dsimp only at q
      split at q
      · rename_i x cc cda
        obtain ⟨q1, q⟩ := He.ba q
        obtain ⟨q2, q⟩ := He.ba q
        obtain ⟨q3, q4⟩ := He.ba q
        have ex := of_decide_eq_true q1
        subst ex
        split at q3
        · rename_i cl cld D csl hcc
          have eD := of_decide_eq_true q3
          subst eD
          split at q4
          · rename_i ccl cdd vs ccs hcd
            split at q4
            · rename_i file tf hf
              exact ⟨oc, od, _, _, _, _, cda, _, osl, cc, cl, ccl, cld, cdd, csl, ccs, vs, file, tf, rfl, q2, hcc, hcd, hf, q4⟩
            · cases q4
          · cases q4
        · cases q3
      · cases q
    | _ => cases q
/-! ### the Hook -/
def asK (g : Addr → Option Obj) : Nat → List Addr
  | 0 => [mainGlobals, cStatics]
  | n + 1 => He.growD g (asK g n)
/-- all that is asked -/
def okK (K : PySem.W.Frag) : Bool := ((fa.all fun f => f.ok K) && fn.all fun d => d.ok K) && (oexB K (He.ga K "Fault") && (xfB K (He.ga K "Fault") && (He.eqO (PySem.W.findIn K (.ref (He.ga K "Fault")) "__init__") (some (some (.ref (He.ma K (He.ga K "Fault") "__init__")))) &&
  (decide (PySem.W.typeIn K (.ref (He.ma K (He.ga K "Fault") "__init__")) = some (.type "function")) && supB K))))
abbrev AlK : Type := Bool × List He.FnW × FnC
def obsK (K : PySem.W.Frag) : AlK := (okK K, fn.map fun d => He.fnW K d.at_, fnC K)
def valK : AlK := (true, fn.map He.DefD.val, fnCval)
def SaysK (K : PySem.W.Frag) : Prop := obsK K = valK
def obsKG (g : Addr → Option Obj) : AlK := obsK (He.frG g (asK g 6))
def hookK : PySem.W.Hook where
  α := AlK
  obs := fun s => obsKG s.heap.get?
  val := fun _ => valK
  says := fun _ h => ∃ K : PySem.W.Frag, K.In h ∧ SaysK K
  of := fun _ _ e => ⟨_, He.frG_in, e⟩
  keeps := fun _ _ _ ⟨K, hK, c⟩ k => ⟨K, PySem.W.Frag.In.keeps hK k, c⟩
theorem obsKG_eq {g : Addr → Option Obj} {s : Shared} (h : ∀ a, g a = s.heap.get? a) : obsKG g = hookK.obs s := by
  have e : g = s.heap.get? := funext h
  rw [e] <;> rfl
section
variable {K : PySem.W.Frag}
theorem SaysK.ok (c : SaysK K) : okK K = true := congrArg (fun z : AlK => z.1) c
theorem SaysK.fact (c : SaysK K) (i : Nat) {f : He.Fa} (h : fa[i]? = some f) : f.ok K = true := by
  have c1 := (He.ba (He.ba c.ok).1).1
  exact List.all_eq_true.mp c1 f (List.mem_of_getElem? h)
theorem SaysK.def_ (c : SaysK K) (i : Nat) {d : He.DefD} (h : fn[i]? = some d) : ∃ fd, FunD K d.name d.qual d.params d.body d.scope (d.dvs K) (d.kws K) (He.fAd K d.at_) fd := by
  have c2 := (He.ba (He.ba c.ok).1).2
  have e : fn.map (fun d => He.fnW K d.at_) = fn.map He.DefD.val := congrArg (fun z : AlK => z.2.1) c
  have e2 : (fn.map fun d => He.fnW K d.at_)[i]? = (fn.map He.DefD.val)[i]? := by rw [e]
  rw [List.getElem?_map, List.getElem?_map, h] at e2
  exact He.DefD.funD (Option.some.inj e2) (List.all_eq_true.mp c2 d (List.mem_of_getElem? h))
theorem SaysK.oex (c : SaysK K) : OexC K (He.ga K "Fault") := oexB_ok (He.ba (He.ba c.ok).2).1
theorem SaysK.xf (c : SaysK K) : XfC K (He.ga K "Fault") := xfB_ok (He.ba (He.ba (He.ba c.ok).2).2).1
theorem SaysK.iF (c : SaysK K) : PySem.W.findIn K (.ref (He.ga K "Fault")) "__init__" = some (some (.ref (He.ma K (He.ga K "Fault") "__init__"))) := He.eqO_ok (He.ba (He.ba (He.ba (He.ba c.ok).2).2).2).1
theorem SaysK.tF (c : SaysK K) : PySem.W.typeIn K (.ref (He.ma K (He.ga K "Fault") "__init__")) = some (.type "function") := of_decide_eq_true (He.ba (He.ba (He.ba (He.ba (He.ba c.ok).2).2).2).2).1
theorem SaysK.sup (c : SaysK K) : SupTxt K := supB_ok (congrArg (fun z : AlK => z.2.2) c) (He.ba (He.ba (He.ba (He.ba (He.ba c.ok).2).2).2).2).2
end
theorem txt_of {K : PySem.W.Frag} {h : Heap} {mg : Str → Option Value} (X : K.In h) (G : h.Ns mainGlobals mg) (c : SaysK K) : Txt K mg := by
  refine {
    glo := ?glo
    free := ?free
    mv := He.int_ok X G (c.fact 41 rfl)
    mc := He.int_ok X G (c.fact 42 rfl)
    f_checked := c.def_ 0 rfl
    f_place_of := c.def_ 1 rfl
    f_cell_number := c.def_ 2 rfl
    f_combined := c.def_ 3 rfl
    f_same_outcome := c.def_ 4 rfl
    f_run_block := c.def_ 5 rfl
    f_law_mix := c.def_ 6 rfl
    f_law_numbers := c.def_ 7 rfl
    f_law_take := c.def_ 8 rfl
    f_law_number := c.def_ 9 rfl
    f_law_exp := c.def_ 10 rfl
    f_law_index := c.def_ 11 rfl
    f_law_cells := c.def_ 12 rfl
    f_law_in_range := c.def_ 13 rfl
    f_law_two := c.def_ 14 rfl
    f_law_value := c.def_ 15 rfl
    f_law_place := c.def_ 16 rfl
    f_law_read := c.def_ 17 rfl
    f_law_new := c.def_ 18 rfl
    f_law_body := c.def_ 19 rfl
    f_law_statement := c.def_ 20 rfl
    f_law_memory := c.def_ 21 rfl
    f_law_runs := c.def_ 22 rfl
    f_law_run_one := c.def_ 23 rfl
    f_law_chosen := c.def_ 24 rfl
    f_law_outcome := c.def_ 25 rfl
    f_law_parts := c.def_ 26 rfl
    f_law_other := c.def_ 27 rfl
    f_law := c.def_ 28 rfl
    m_value := c.def_ 29 rfl
    m_read := c.def_ 30 rfl
    m_run := c.def_ 31 rfl
    m_run_one := c.def_ 32 rfl
    m_run_repeat := c.def_ 33 rfl
    m_run_choose := c.def_ 34 rfl
    m_Fault := c.def_ 35 rfl
    m_Reader := c.def_ 36 rfl
    m_Outcome := c.def_ 37 rfl
    f_ended := c.def_ 38 rfl
    oex := c.oex
    xf := c.xf
    nF := He.noat_ok (c.fact 44 rfl)
    iF := c.iF
    tF := c.tF
    eF := He.exm_ok (c.fact 43 rfl)
    bC := He.cls_ok (c.fact 45 rfl)
    bN := ?bN
    bM := ?bM
    bMk := He.mkr_ok (c.fact 58 rfl)
    oC := He.cls_ok (c.fact 59 rfl)
    oN := ?oN
    oMk := He.mkr_ok (c.fact 66 rfl) }
  case glo =>
    intro x hx
    have hx : x ∈ ([("HandshakerError" : Str), ("Fault" : Str), ("checked" : Str), ("place_of" : Str), ("cell_number" : Str), ("combined" : Str), ("Reader" : Str), ("Outcome" : Str), ("same_outcome" : Str), ("ended" : Str), ("BlockRunner" : Str), ("run_block" : Str), ("_law_mix" : Str), ("_law_numbers" : Str), ("_law_take" : Str), ("_law_number" : Str), ("_law_exp" : Str), ("_law_index" : Str), ("_law_cells" : Str), ("_law_in_range" : Str), ("_law_two" : Str), ("_law_value" : Str), ("_law_place" : Str), ("_law_read" : Str), ("_law_new" : Str), ("_law_body" : Str), ("_law_statement" : Str), ("_law_memory" : Str), ("_law_runs" : Str), ("_law_run_one" : Str), ("_law_chosen" : Str), ("_law_outcome" : Str), ("_law_parts" : Str), ("_law_other" : Str), ("law" : Str)] : List Str) := hx
    simp only [List.mem_cons, List.not_mem_nil, or_false] at hx
    rcases hx with rfl | rfl | rfl | rfl | rfl | rfl | rfl | rfl | rfl | rfl | rfl | rfl | rfl | rfl | rfl | rfl | rfl | rfl | rfl | rfl | rfl | rfl | rfl | rfl | rfl | rfl | rfl | rfl | rfl | rfl | rfl | rfl | rfl | rfl | rfl
    · exact He.glo_ok X G (c.fact 0 rfl)
    · exact He.glo_ok X G (c.fact 1 rfl)
    · exact He.glo_ok X G (c.fact 2 rfl)
    · exact He.glo_ok X G (c.fact 3 rfl)
    · exact He.glo_ok X G (c.fact 4 rfl)
    · exact He.glo_ok X G (c.fact 5 rfl)
    · exact He.glo_ok X G (c.fact 6 rfl)
    · exact He.glo_ok X G (c.fact 7 rfl)
    · exact He.glo_ok X G (c.fact 8 rfl)
    · exact He.glo_ok X G (c.fact 9 rfl)
    · exact He.glo_ok X G (c.fact 10 rfl)
    · exact He.glo_ok X G (c.fact 11 rfl)
    · exact He.glo_ok X G (c.fact 12 rfl)
    · exact He.glo_ok X G (c.fact 13 rfl)
    · exact He.glo_ok X G (c.fact 14 rfl)
    · exact He.glo_ok X G (c.fact 15 rfl)
    · exact He.glo_ok X G (c.fact 16 rfl)
    · exact He.glo_ok X G (c.fact 17 rfl)
    · exact He.glo_ok X G (c.fact 18 rfl)
    · exact He.glo_ok X G (c.fact 19 rfl)
    · exact He.glo_ok X G (c.fact 20 rfl)
    · exact He.glo_ok X G (c.fact 21 rfl)
    · exact He.glo_ok X G (c.fact 22 rfl)
    · exact He.glo_ok X G (c.fact 23 rfl)
    · exact He.glo_ok X G (c.fact 24 rfl)
    · exact He.glo_ok X G (c.fact 25 rfl)
    · exact He.glo_ok X G (c.fact 26 rfl)
    · exact He.glo_ok X G (c.fact 27 rfl)
    · exact He.glo_ok X G (c.fact 28 rfl)
    · exact He.glo_ok X G (c.fact 29 rfl)
    · exact He.glo_ok X G (c.fact 30 rfl)
    · exact He.glo_ok X G (c.fact 31 rfl)
    · exact He.glo_ok X G (c.fact 32 rfl)
    · exact He.glo_ok X G (c.fact 33 rfl)
    · exact He.glo_ok X G (c.fact 34 rfl)
  case free =>
    intro x hx
    have hx : x ∈ ([("int" : Str), ("range" : Str), ("len" : Str), ("dict" : Str), ("list" : Str), ("super" : Str)] : List Str) := hx
    simp only [List.mem_cons, List.not_mem_nil, or_false] at hx
    rcases hx with rfl | rfl | rfl | rfl | rfl | rfl
    · exact He.free_ok X G (c.fact 35 rfl)
    · exact He.free_ok X G (c.fact 36 rfl)
    · exact He.free_ok X G (c.fact 37 rfl)
    · exact He.free_ok X G (c.fact 38 rfl)
    · exact He.free_ok X G (c.fact 39 rfl)
    · exact He.free_ok X G (c.fact 40 rfl)
  case bN =>
    intro x hx
    have hx : x ∈ ([("locals_now" : Str), ("cells" : Str), ("memory" : Str), ("reads" : Str), ("writes" : Str), ("later" : Str)] : List Str) := hx
    simp only [List.mem_cons, List.not_mem_nil, or_false] at hx
    rcases hx with rfl | rfl | rfl | rfl | rfl | rfl
    · exact He.noat_ok (c.fact 46 rfl)
    · exact He.noat_ok (c.fact 47 rfl)
    · exact He.noat_ok (c.fact 48 rfl)
    · exact He.noat_ok (c.fact 49 rfl)
    · exact He.noat_ok (c.fact 50 rfl)
    · exact He.noat_ok (c.fact 51 rfl)
  case bM =>
    intro x hx
    have hx : x ∈ ([("value" : Str), ("read" : Str), ("run" : Str), ("run_one" : Str), ("run_repeat" : Str), ("run_choose" : Str)] : List Str) := hx
    simp only [List.mem_cons, List.not_mem_nil, or_false] at hx
    rcases hx with rfl | rfl | rfl | rfl | rfl | rfl
    · exact He.meth_ok (c.fact 52 rfl)
    · exact He.meth_ok (c.fact 53 rfl)
    · exact He.meth_ok (c.fact 54 rfl)
    · exact He.meth_ok (c.fact 55 rfl)
    · exact He.meth_ok (c.fact 56 rfl)
    · exact He.meth_ok (c.fact 57 rfl)
  case oN =>
    intro x hx
    have hx : x ∈ ([("kind" : Str), ("reads" : Str), ("writes" : Str), ("finals" : Str), ("later" : Str), ("reason" : Str)] : List Str) := hx
    simp only [List.mem_cons, List.not_mem_nil, or_false] at hx
    rcases hx with rfl | rfl | rfl | rfl | rfl | rfl
    · exact He.noat_ok (c.fact 60 rfl)
    · exact He.noat_ok (c.fact 61 rfl)
    · exact He.noat_ok (c.fact 62 rfl)
    · exact He.noat_ok (c.fact 63 rfl)
    · exact He.noat_ok (c.fact 64 rfl)
    · exact He.noat_ok (c.fact 65 rfl)
/-! ### the run -/
abbrev RR : PySem.W.OpenRow := PySem.W.OpenLaw.row PySem.Challenge.rw_handshaker_k13_whole_blocks
def looseK : List Str := [("MOST_VALUE" : Str), ("MOST_COUNT" : Str), ("HandshakerError" : Str), ("Fault" : Str), ("checked" : Str), ("place_of" : Str), ("cell_number" : Str), ("combined" : Str), ("Reader" : Str), ("Outcome" : Str), ("same_outcome" : Str), ("ended" : Str), ("BlockRunner" : Str), ("run_block" : Str), ("_law_mix" : Str), ("_law_numbers" : Str), ("_law_take" : Str), ("_law_number" : Str), ("_law_exp" : Str), ("_law_index" : Str), ("_law_cells" : Str), ("_law_in_range" : Str), ("_law_two" : Str), ("_law_value" : Str), ("_law_place" : Str), ("_law_read" : Str), ("_law_new" : Str), ("_law_body" : Str), ("_law_statement" : Str), ("_law_memory" : Str), ("_law_runs" : Str), ("_law_run_one" : Str), ("_law_chosen" : Str), ("_law_outcome" : Str), ("_law_parts" : Str), ("_law_other" : Str)]
def obK (s : PySem.W.SharedT) : AlK := obsKG (HandSHeadRun.getT s)
theorem obK_eq (s : PySem.W.SharedT) : obK s = hookK.obs s.abs := obsKG_eq (HandSHeadRun.getT_eq s)
theorem runK (w : World) : HandSHeadRun.RunEq RR (PySem.W.view RR.prog [40]) hookK obK 4000 looseK w := by
  intro os
  kernel_rfl
end K13
set_option Elab.async false
set_option linter.all false
set_option maxRecDepth 100000
set_option maxHeartbeats 0
/-! K13End: the statement. -/
namespace K13
open PySem PySem.Spec PyProof.Rows L2
theorem facts13 {w : World} {K : PySem.W.Frag} {h : Heap} {mg : Str → Option Value} {f : Addr} (X : K.In h) (G : h.Ns mainGlobals mg) (hfa : mg ("law" : Str) = some (.ref f)) (c : SaysK K) :
    ∃ fd : FuncData, (∀ (s : Shared) (v : Value), BindsTo s fd ⟨[v], []⟩ [("_law_script", v)]) ∧ ∀ base : Heap, K.In base → base.Ns mainGlobals mg → FnOk PP w K mg base CX0 25 f fd ["_law_script"] (spLaw K) := by
  have T := txt_of X G c
  have S := c.sup
  obtain ⟨fd, F⟩ := T.f_law
  have e := hfa.symm.trans (T.glo _ (by decide +kernel))
  cases e
  have b := FunD.bindsA (ps := ["_law_script"]) F fun _ _ _ _ _ _ us hl => match us, hl with | [_], _ => rfl
  refine ⟨fd, fun s v => b s [v] rfl, fun base _ _ => ?_⟩
  exact ok_law T S F
end K13
open PySem PySem.W PySem.Calls PyProof.Rows
theorem PySem.Challenge.cw_handshaker_k13_whole_blocks_holds : PySem.Challenge.rw_handshaker_k13_whole_blocks.Holds := by
  w_on; o_law
  refine HandSHeadRun.head_any (r := OpenLaw.row PySem.Challenge.rw_handshaker_k13_whole_blocks) (q := view (OpenLaw.row PySem.Challenge.rw_handshaker_k13_whole_blocks).prog [40]) (H := K13.hookK) (ob := K13.obK) (M := 4000) (loose := K13.looseK)
    (d := HandSHeadRun.topDef (OpenLaw.row PySem.Challenge.rw_handshaker_k13_whole_blocks).prog 40) (kwd := []) K13.obK_eq
    (by kernel_rfl) (fun s => by kernel_rfl) K13.runK (by kernel_rfl) (by kernel_rfl) (by kernel_rfl) (by rfl) (by first | assumption | decide +kernel) (by decide +kernel) ⟨rfl, rfl, rfl, rfl, rfl, by decide +kernel⟩ ?hw ?hc
  case hw => w_witness2
  case hc =>
    refine L2.walk_ofE (l := PySem.Challenge.rw_handshaker_k13_whole_blocks) (n := 63) (k := 25) (x := "_law_script") (CX := L2.CX0) rfl (by decide) (by kernel_rfl) ⟨rfl, by decide, by decide⟩ ?F (fun _ _ _ _ z => z)
    intro w mg fa h Y G hmg0
    obtain ⟨K, KX, c⟩ := Y
    have hmg : mg ("law" : PySem.Str) = some (.ref fa) := by
      have e : (HandSHeadRun.topDef (OpenLaw.row PySem.Challenge.rw_handshaker_k13_whole_blocks).prog 40).name = ("law" : PySem.Str) := by kernel_rfl
      rw [← e]
      exact hmg0
    obtain ⟨fd, hb, hF⟩ := K13.facts13 (w := w) KX G hmg c
    exact ⟨K, fd, K13.spLaw K, KX, hb, fun H a ns hl _ hS => ⟨a, ns, rfl, hS, hl, fun _ => rfl⟩, hF⟩
