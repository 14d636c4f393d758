import PyProof.Rows.All
import Wide.All
import OpenK.AllK
import Wide.FinOn
import PyProof.EqAt
import PyProof.EqKinds
import PyProof.TupleCall
import PyProof.Draws
import KE.KStateDown
import KE.GoesMore
import HandS.ForMost
import HandS.Evl
import HandS.Walk
import HandS.Defaults
import HandS.IsInst
import HandS.Head0
import HandS.Head1
import HandS.Head2
import HandS.HeadEnd
import HandS.HeadHook1
import HandS.HeadHook2
import KE.DatumOrd
import KE.SortData
import PyProof.Rows.RowBridgeK
import HandS.Exc
import HandS.ExcOwn
import HandS.ExcInit
import HandS.ExcCtx
import HandS.ExcField
import HandS.ExcIs
import HandS.Hot
import HandS.HotCalls
import HandS.Codes
import KE.KExcIs
import HandS.Nested
import KE.KDflt
import HandS.Lambda
import HandS.Deep
import HandS.HeadHook4
import HandS.HeadWalk
import KE.KNestM
import PySem.Challenge.RW_beaconmeet_k01_patterns_refused
set_option Elab.async false
set_option linter.all false
set_option maxRecDepth 100000
set_option maxHeartbeats 4000000
namespace Bm
/-! ### patterns as lists of truth values -/
/-- awake in beat i, going round -/
def aw (p : List Bool) (i : Nat) : Bool := p.getD (i % p.length) false
/-- the numbers of the beats awake -/
def ones (p : List Bool) : List Nat := (List.range p.length).filter fun i => p.getD i false
/-- a pattern: one to m beats, one awake at least -/
structure Pat (m : Nat) (p : List Bool) : Prop where
  lo : 1 ≤ p.length
  hi : p.length ≤ m
  has : true ∈ p
def met (p q : List Bool) (l : Bool) (x y : Nat) : Bool := aw q y && (aw p x || (l && aw p (x + 1)))
/-- the first moment -/
def first (p q : List Bool) (l : Bool) (a b : Nat) : Option Nat := (List.range (p.length * q.length)).find? fun m => met p q l (a + m) (b + m)

theorem mem_ones {p : List Bool} {i : Nat} : i ∈ ones p ↔ i < p.length ∧ p.getD i false = true := by
  unfold ones
  rw [List.mem_filter, List.mem_range]
theorem aw_iff {p : List Bool} (h : 0 < p.length) (i : Nat) : aw p i = decide (i % p.length ∈ ones p) := by
  have hl : i % p.length < p.length := Nat.mod_lt _ h
  unfold aw
  cases e : p.getD (i % p.length) false with
  | true => rw [decide_eq_true (mem_ones.mpr ⟨hl, e⟩)]
  | false => rw [decide_eq_false]; intro z; rw [(mem_ones.mp z).2] at e; cases e

/-! ### the first of a range -/
theorem find_range_some {n m : Nat} {f : Nat → Bool} (h : (List.range n).find? f = some m) : m < n ∧ f m = true ∧ ∀ i, i < m → f i = false := by
  rw [List.find?_range_eq_some] at h
  obtain ⟨h1, h2, h3⟩ := h
  refine ⟨List.mem_range.mp h2, h1, fun i hi => ?_⟩
  have := h3 i hi
  simpa using this
theorem find_range_none {n : Nat} {f : Nat → Bool} (h : (List.range n).find? f = none) : ∀ i, i < n → f i = false := by
  intro i hi
  have := List.find?_eq_none.mp h i (List.mem_range.mpr hi)
  simpa using this
theorem find_range_is {n m : Nat} {f : Nat → Bool} (h1 : m < n) (h2 : f m = true) (h3 : ∀ i, i < m → f i = false) : (List.range n).find? f = some m := by
  rw [List.find?_range_eq_some]
  exact ⟨h2, List.mem_range.mpr h1, fun i hi => by simp [h3 i hi]⟩
theorem find_range_no {n : Nat} {f : Nat → Bool} (h : ∀ i, i < n → f i = false) : (List.range n).find? f = none := by
  rw [List.find?_eq_none]
  intro i hi
  simp [h i (List.mem_range.mp hi)]
end Bm
namespace Bm
/-! ### what is no pattern -/
def badAt (c i : Nat) : Bool := decide (12 ≤ i) || !(c == 49 || c == 48)
def fault (cs : List Nat) : Option Nat := match (List.range cs.length).find? fun i => badAt (cs.getD i 0) i with
  | some i => some i
  | none => if 49 ∈ cs then none else some cs.length
end Bm
namespace Bm
/-! ### the latest -/
abbrev Row := Option Nat × Nat × Nat
def rowA (p q : List Bool) (l : Bool) (a k : Nat) : List Row := (List.range k).map fun b => (first p q l a b, a, b)
def upto (p q : List Bool) (l : Bool) (a : Nat) : List Row := (List.range a).flatMap fun a' => rowA p q l a' q.length
def rows (p q : List Bool) (l : Bool) : List Row := upto p q l p.length
def valR (r : Row) : Nat := r.1.getD 0
def stp (best : Option Row) (r : Row) : Option Row := match best with
  | none => some r
  | some b => if valR b < valR r then some r else some b
/-- all meet -/
def allMeet (rs : List Row) : Prop := ∀ r ∈ rs, r.1 ≠ none
def worst (p q : List Bool) (l : Bool) : Row := match (rows p q l).find? (fun r => r.1.isNone) with
  | some r => r
  | none => ((rows p q l).foldl stp none).getD (none, 0, 0)
theorem rowA_succ (p q : List Bool) (l : Bool) (a b : Nat) : rowA p q l a (b + 1) = rowA p q l a b ++ [(first p q l a b, a, b)] := by
  unfold rowA
  rw [List.range_succ, List.map_append]
  rfl
theorem upto_succ (p q : List Bool) (l : Bool) (a : Nat) : upto p q l (a + 1) = upto p q l a ++ rowA p q l a q.length := by
  unfold upto
  rw [List.range_succ, List.flatMap_append]
  simp
theorem upto_pre (p q : List Bool) (l : Bool) {a : Nat} (h : a < p.length) : ∃ s, rows p q l = upto p q l a ++ (rowA p q l a q.length ++ s) := by
  have key : ∀ n, a < n → ∃ s, upto p q l n = upto p q l a ++ (rowA p q l a q.length ++ s) := by
    intro n hn
    induction n with
    | zero => omega
    | succ n ih =>
      rw [upto_succ]
      by_cases e : a = n
      · subst e
        exact ⟨[], by simp⟩
      · obtain ⟨s, hs⟩ := ih (by omega)
        exact ⟨s ++ rowA p q l n q.length, by rw [hs]; simp⟩
  exact key p.length h
theorem rowA_pre (p q : List Bool) (l : Bool) (a : Nat) {b k : Nat} (h : b < k) : ∃ s, rowA p q l a k = rowA p q l a b ++ (first p q l a b, a, b) :: s := by
  induction k with
  | zero => omega
  | succ k ih =>
    rw [rowA_succ]
    by_cases e : b = k
    · subst e
      exact ⟨[], rfl⟩
    · obtain ⟨s, hs⟩ := ih (by omega)
      exact ⟨s ++ [(first p q l a k, a, k)], by rw [hs]; simp⟩
theorem find_none_of {pre : List Row} (h : allMeet pre) : pre.find? (fun r => r.1.isNone) = none := by
  rw [List.find?_eq_none]
  intro r hr
  have := h r hr
  cases e : r.1 with
  | none => exact absurd e this
  | some m => simp
/-- the first pair by which they never meet -/
theorem worst_never {p q : List Bool} {l : Bool} {a b : Nat} (ha : a < p.length) (hb : b < q.length) (h1 : allMeet (upto p q l a)) (h2 : allMeet (rowA p q l a b)) (h : first p q l a b = none) : worst p q l = (none, a, b) := by
  obtain ⟨s, hs⟩ := upto_pre p q l ha
  obtain ⟨s2, hs2⟩ := rowA_pre p q l a hb
  have e : (rows p q l).find? (fun r => r.1.isNone) = some (none, a, b) := by
    rw [hs, hs2, List.find?_append, find_none_of h1, List.find?_append, List.find?_append, find_none_of h2, h]
    rfl
  unfold worst
  rw [e]
theorem worst_all {p q : List Bool} {l : Bool} (h : allMeet (rows p q l)) : worst p q l = ((rows p q l).foldl stp none).getD (none, 0, 0) := by
  unfold worst
  rw [find_none_of h]
theorem mem_rows {p q : List Bool} {l : Bool} {r : Row} : r ∈ rows p q l ↔ ∃ a b, a < p.length ∧ b < q.length ∧ r = (first p q l a b, a, b) := by
  unfold rows upto rowA
  rw [List.mem_flatMap]
  constructor
  · rintro ⟨a, ha, h⟩
    obtain ⟨b, hb, e⟩ := List.mem_map.mp h
    exact ⟨a, b, List.mem_range.mp ha, List.mem_range.mp hb, e.symm⟩
  · rintro ⟨a, b, ha, hb, e⟩
    exact ⟨a, List.mem_range.mpr ha, List.mem_map.mpr ⟨b, List.mem_range.mpr hb, e.symm⟩⟩
/-- the fold from a first one on -/
def bestFrom (b : Row) : List Row → Row
  | [] => b
  | r :: rs => bestFrom (if valR b < valR r then r else b) rs
theorem foldl_best : ∀ (rs : List Row) (b : Row), rs.foldl stp (some b) = some (bestFrom b rs)
  | [], _ => rfl
  | r :: rs, b => by
    rw [List.foldl_cons]
    unfold bestFrom
    show rs.foldl stp (if valR b < valR r then some r else some b) = _
    split
    · exact foldl_best rs r
    · exact foldl_best rs b
theorem head_best (M : Nat) : ∀ (rs : List Row) (b : Row), (∀ r ∈ b :: rs, valR r ≤ M) → (∃ r ∈ b :: rs, valR r = M) → ((b :: rs).filter fun r => decide (valR r = M)).head? = some (bestFrom b rs)
  | [], b, _, h => by
    obtain ⟨r, hr, e⟩ := h
    have : r = b := by simpa using hr
    subst this
    simp [e, bestFrom]
  | r :: rs, b, hle, h => by
    unfold bestFrom
    have hb := hle b (by simp)
    have hr := hle r (by simp)
    by_cases c : valR b < valR r
    · rw [if_pos c]
      have nb : ¬ valR b = M := by omega
      rw [List.filter_cons, if_neg (by simpa using nb)]
      refine head_best M rs r (fun x hx => hle x (List.mem_cons_of_mem _ hx)) ?_
      obtain ⟨x, hx, e⟩ := h
      rcases List.mem_cons.mp hx with rfl | hx
      · exact absurd e nb
      · exact ⟨x, hx, e⟩
    · rw [if_neg c]
      have ih := head_best M rs b (fun x hx => hle x (by
        rcases List.mem_cons.mp hx with rfl | hx
        · simp
        · simp [hx])) (by
        obtain ⟨x, hx, e⟩ := h
        rcases List.mem_cons.mp hx with rfl | hx
        · exact ⟨x, by simp, e⟩
        · rcases List.mem_cons.mp hx with rfl | hx
          · exact ⟨b, by simp, by omega⟩
          · exact ⟨x, by simp [hx], e⟩)
      rw [← ih]
      by_cases nb : valR b = M
      · rw [List.filter_cons (x := b) (xs := r :: rs), if_pos (by simpa using nb), List.filter_cons (x := b) (xs := rs), if_pos (by simpa using nb)]
        rfl
      · rw [List.filter_cons (x := b) (xs := r :: rs), if_neg (by simpa using nb), List.filter_cons (x := r), if_neg (by simpa using (show ¬ valR r = M by omega)), List.filter_cons (x := b) (xs := rs), if_neg (by simpa using nb)]
theorem worst_head {p q : List Bool} {l : Bool} {M : Nat} (h : allMeet (rows p q l)) (hle : ∀ r ∈ rows p q l, valR r ≤ M) (hex : ∃ r ∈ rows p q l, valR r = M) : ((rows p q l).filter fun r => decide (valR r = M)).head? = some (worst p q l) := by
  rw [worst_all h]
  cases e : rows p q l with
  | nil =>
    rw [e] at hex
    obtain ⟨r, hr, _⟩ := hex
    cases hr
  | cons b rs =>
    rw [e] at hle hex
    rw [head_best M rs b hle hex, List.foldl_cons]
    show _ = some ((rs.foldl stp (some b)).getD (none, 0, 0))
    rw [foldl_best]
    rfl
/-- what is known of worst -/
theorem worst_mem {p q : List Bool} {l : Bool} (hp : 0 < p.length) (hq : 0 < q.length) : worst p q l ∈ rows p q l := by
  unfold worst
  cases e : (rows p q l).find? (fun r => r.1.isNone) with
  | some r => exact List.mem_of_find?_eq_some e
  | none =>
    show ((rows p q l).foldl stp none).getD (none, 0, 0) ∈ rows p q l
    cases e2 : rows p q l with
    | nil =>
      have : ((first p q l 0 0, 0, 0) : Row) ∈ rows p q l := mem_rows.mpr ⟨0, 0, hp, hq, rfl⟩
      rw [e2] at this
      cases this
    | cons b rs =>
      rw [List.foldl_cons]
      show (rs.foldl stp (some b)).getD (none, 0, 0) ∈ b :: rs
      rw [foldl_best]
      show bestFrom b rs ∈ b :: rs
      have key : ∀ (rs : List Row) (b : Row), bestFrom b rs ∈ b :: rs := by
        intro rs
        induction rs with
        | nil => intro b; simp [bestFrom]
        | cons r rs ih =>
          intro b
          unfold bestFrom
          have := ih (if valR b < valR r then r else b)
          rcases List.mem_cons.mp this with h | h
          · rw [h]
            split <;> simp
          · simp [h]
      exact key rs b
theorem worst_none_iff {p q : List Bool} {l : Bool} (hp : 0 < p.length) (hq : 0 < q.length) : (worst p q l).1 = none ↔ ∃ a b, a < p.length ∧ b < q.length ∧ first p q l a b = none := by
  constructor
  · intro h
    obtain ⟨a, b, ha, hb, e⟩ := mem_rows.mp (worst_mem (l := l) hp hq)
    rw [e] at h
    exact ⟨a, b, ha, hb, h⟩
  · rintro ⟨a, b, ha, hb, h⟩
    unfold worst
    cases e : (rows p q l).find? (fun r => r.1.isNone) with
    | some r =>
      have := List.find?_some e
      show r.1 = none
      simpa using this
    | none =>
      have := List.find?_eq_none.mp e (none, a, b) (mem_rows.mpr ⟨a, b, ha, hb, by rw [h]⟩)
      simp at this
/-- all meet no later than it -/
theorem worst_le {p q : List Bool} {l : Bool} {m : Nat} (hp : 0 < p.length) (hq : 0 < q.length) (h : (worst p q l).1 = some m) {a b : Nat} (ha : a < p.length) (hb : b < q.length) : ∃ k, first p q l a b = some k ∧ k ≤ m := by
  have hall : allMeet (rows p q l) := by
    intro r hr e
    obtain ⟨a, b, ha, hb, rfl⟩ := mem_rows.mp hr
    rw [(worst_none_iff hp hq).mpr ⟨a, b, ha, hb, e⟩] at h
    cases h
  cases e : first p q l a b with
  | none => exact absurd e (hall _ (mem_rows.mpr ⟨a, b, ha, hb, rfl⟩))
  | some k =>
    refine ⟨k, rfl, ?_⟩
    rw [worst_all hall] at h
    have hm : ((first p q l a b, a, b) : Row) ∈ rows p q l := mem_rows.mpr ⟨a, b, ha, hb, rfl⟩
    cases e2 : rows p q l with
    | nil => rw [e2] at hm; cases hm
    | cons r rs =>
      rw [e2] at h hm
      rw [List.foldl_cons] at h
      have h : ((rs.foldl stp (some r)).getD (none, 0, 0)).1 = some m := h
      rw [foldl_best] at h
      have h : (bestFrom r rs).1 = some m := h
      have key : ∀ (rs : List Row) (b : Row), ∀ x ∈ b :: rs, valR x ≤ valR (bestFrom b rs) := by
        intro rs
        induction rs with
        | nil => intro b x hx; have : x = b := by simpa using hx
                 subst this; exact Nat.le_refl _
        | cons r rs ih =>
          intro b x hx
          unfold bestFrom
          have h0 := ih (if valR b < valR r then r else b) _ (List.mem_cons_self ..)
          rcases List.mem_cons.mp hx with rfl | hx
          · refine Nat.le_trans ?_ h0
            split <;> omega
          · rcases List.mem_cons.mp hx with rfl | hx
            · refine Nat.le_trans ?_ h0
              split <;> omega
            · exact ih _ x (by simp [hx])
      have := key rs r _ hm
      unfold valR at this
      rw [h, e] at this
      exact this
theorem worst_at {p q : List Bool} {l : Bool} (hp : 0 < p.length) (hq : 0 < q.length) : ∃ a b, a < p.length ∧ b < q.length ∧ worst p q l = (first p q l a b, a, b) := mem_rows.mp (worst_mem hp hq)
end Bm
namespace Bm
open PySem PySem.Spec PyProof.Rows L2 Evl
/-! ### defs by name -/
structure Cal (P : Program) (w : World) (K : PySem.W.Frag) (mg : PySem.Str → Option Value) (base : Heap) (k : Nat) (x : PySem.Str) (ps : List PySem.Str) (sp : Sp) : Prop where
  ex : ∃ f fd, FnOk P w K mg base CX0 k f fd ps sp ∧ mg x = some (.ref f) ∧ PySem.W.keepIn K (.ref f) = true ∧ Binds K fd ps [] ∧ ∃ oc od osl, K.lookup f = some ⟨oc, od, .func fd, osl⟩
theorem pe_callC {X : Cx} {k j : Nat} {x : PySem.Str} {ps : List PySem.Str} {sp : Sp} {e : Expr} {es : List Expr} {t : TA} {p pos : Pos} (C : Cal X.prog X.w X.K X.mg X.base k x ps sp) (hr : Room j X.A) (hk : k ≤ j) (ha : PA X (e :: es) t) (hg : Gl X x := by rfl)
    (hdb : (x == ("__debug__" : PySem.Str)) = false := by decide) (he : starEach (e :: es) X.env = (false, eval e X.env) :: starEach es X.env := by rfl) (hpl : (backTo pos (starEach es X.env)).any (·.1) = false := by rfl) :
    PE X (.Call (.Name x p) (e :: es) [] pos) (tCall sp [] E0 t) := by
  obtain ⟨f, fd, F, hm, kp, b, _⟩ := C.ex
  exact pe_call F (hr.mono hk) hg hm kp b .nil pass0 ha hdb he hpl
/-- a def of the text as it stands behind the top -/
structure Def1 (K : PySem.W.Frag) (mg : PySem.Str → Option Value) (x : PySem.Str) (st : Stmt) : Prop where
  ex : ∃ f fd, FunD K x x (defArgs st) (defBody st) (defScope st) [] [] f fd ∧ mg x = some (.ref f)
section
variable {P : Program} {w : World} {K : PySem.W.Frag} {mg : PySem.Str → Option Value} {base : Heap}
theorem Def1.cal {x : PySem.Str} {st : Stmt} {N ps : List PySem.Str} {k : Nat} {sp : Sp} (D : Def1 K mg x st) (S : FnScope N ps (defScope st))
    (hb : ∀ (kV doc pm : Value) (an : Option Addr) (cdv ct : Value) (us : List Value), us.length = ps.length → bindArgs (PySem.W.fnOf x x (defArgs st) (defBody st) (defScope st) .none kV doc pm an cdv ct) ⟨us, []⟩ = pure (ps.zip us))
    (len : ∀ vs H Q E, sp vs H Q E → vs.length = ps.length)
    (hbody : ∀ (f : Addr) (cdv : Value) (A : Around) (outer : List Env) (s : Shared) (H : Hp) (vs : List V) (Q : VK) (E : XK), Room k (A.deeper (envOfC x (defScope st) s.heap.objs.size f cdv)) → sp vs H Q E →
      ∃ t, PSs (cxOf CX0 P w K mg base N x (defScope st) f cdv A outer s H E).nox (defBody st) t ∧ t { nx := fun _ H' => Q .non H', rt := Q } (start N vs) H) : Cal P w K mg base (k + 1) x ps sp := by
  obtain ⟨f, fd, F, hm⟩ := D.ex
  refine ⟨f, fd, F.ok S len fun cdv A outer s H vs Q E hr h => ?_, hm, F.kp, F.bindsN hb, ?_⟩
  rotate_left
  · obtain ⟨oc, od, _, _, _, _, _, _, _, osl, _, lk, _⟩ := F.ex
    exact ⟨oc, od, osl, lk⟩
  obtain ⟨t, h1, h2⟩ := hbody f cdv A outer s H vs Q E hr h
  exact ⟨t, PSs.nox h1, h2⟩
theorem Cal.mono {x : PySem.Str} {ps : List PySem.Str} {j k : Nat} {sp : Sp} (C : Cal P w K mg base j x ps sp) (h : j ≤ k) : Cal P w K mg base k x ps sp := by
  obtain ⟨f, fd, F, r⟩ := C.ex
  exact ⟨f, fd, F.mono h, r⟩
theorem Cal.imp {x : PySem.Str} {ps : List PySem.Str} {k : Nat} {sp sp' : Sp} (C : Cal P w K mg base k x ps sp) (h : ∀ vs H Q E, sp' vs H Q E → sp vs H Q E) : Cal P w K mg base k x ps sp' := by
  obtain ⟨f, fd, F, r⟩ := C.ex
  exact ⟨f, fd, F.imp h, r⟩
end
/-- the promise of a def whose object is known -/
theorem Cal.at_ {P : Program} {w : World} {K : PySem.W.Frag} {mg : PySem.Str → Option Value} {base : Heap} {x : PySem.Str} {ps : List PySem.Str} {k : Nat} {sp : Sp} {f : Addr} {fd : FuncData} (C : Cal P w K mg base k x ps sp) (hm : mg x = some (.ref f)) (hl : ∃ oc od osl, K.lookup f = some ⟨oc, od, .func fd, osl⟩) :
    FnOk P w K mg base CX0 k f fd ps sp := by
  obtain ⟨f', fd', F, hm', _, _, oc, od, osl, hl'⟩ := C.ex
  obtain ⟨oc2, od2, osl2, hl⟩ := hl
  have e : f' = f := by
    rw [hm'] at hm
    exact Value.ref.inj (Option.some.inj hm)
  subst e
  rw [hl'] at hl
  have e2 := Option.some.inj hl
  injection e2 with _ _ e3 _
  injection e3 with e4
  subst e4
  exact F
/-- the names that are still the built-in ones -/
structure Bl (mg : PySem.Str → Option Value) : Prop where
  len : mg "len" = none
  range : mg "range" = none
  int : mg "int" = none
  abs : mg "abs" = none
  max : mg "max" = none
  min : mg "min" = none
  sorted : mg "sorted" = none
  isinstance : mg "isinstance" = none
  bool : mg "bool" = none
  str : mg "str" = none
  tuple : mg "tuple" = none
  list : mg "list" = none
  all : mg "all" = none
  enumerate : mg "enumerate" = none
  set : mg "set" = none
/-! ### constants of the module -/
section
variable {X : Cx}
theorem pe_gS {x z : PySem.Str} {pos : Pos} (h : ∃ t, X.mg x = some (.str z t)) (hg : Gl X x := by rfl) (hd : (x == ("__debug__" : PySem.Str)) = false := by decide) : PE X (.Name x pos) (tC (.str z)) := by
  obtain ⟨t, h⟩ := h
  exact pe_glob hg h ⟨t, rfl⟩ hd
theorem pe_gI {x : PySem.Str} {z : Int} {pos : Pos} (h : ∃ t, X.mg x = some (.int z t)) (hg : Gl X x := by rfl) (hd : (x == ("__debug__" : PySem.Str)) = false := by decide) : PE X (.Name x pos) (tC (.int z)) := by
  obtain ⟨t, h⟩ := h
  exact pe_glob hg h ⟨t, rfl⟩ hd
end
/-! ### enumerate(a text) -/
/-- the signs of x, each in a new pair -/
def ItE (x : PySem.Str) : It :=
  ⟨fun i _ => i < x.cps.size, fun i H v H' => ∃ T c, v = .ref T ∧ H T = none ∧ H' = upd H T (.tup [.int (i : Nat), .str ⟨#[c]⟩]) ∧ x.cps[i]? = some c, fun i _ => i = x.cps.size⟩
theorem turn_enumS {P : Program} {w : World} {K : PySem.W.Frag} {elts : List Expr} {kk : Nat} {tpos : Pos} (e it : Addr) (x : PySem.Str) (t : Tok) :
    Turn P w K (.Tuple elts kk tpos) (ItE x) [e, it] e (fun i h => (∃ old, IsEnum h e it ((i : Nat) : Int) old) ∧ h.IsStrIter it (strIterType x) x t i ∧ e ≠ it) where
  mem := by simp
  obj := fun i h st b hb => by
    obtain ⟨⟨old, he⟩, ⟨o, ho, hc, hd⟩, _⟩ := st
    have e' : b = e ∨ b = it := by simpa using hb
    rcases e' with z | z
    · rw [z]; exact ⟨_, he, fun v q => nomatch q⟩
    · rw [z]; exact ⟨o, ho, fun v q => by rw [hd] at q; cases q⟩
  keep := fun i h h' st k => let ⟨⟨old, he⟩, ⟨o, ho, r⟩, hne⟩ := st; ⟨⟨old, k e (by simp) _ he⟩, ⟨o, k it (by simp) o ho, r⟩, hne⟩
  item := by
    intro X hP hw hK hc i pins s σ H E I hf st hg
    subst hP hw hK
    obtain ⟨⟨old, he⟩, hit, hne⟩ := st
    have hel : e < s.heap.objs.size := Heap.lt_size he
    have hil : it < s.heap.objs.size := by obtain ⟨_, q, _⟩ := hit; exact Heap.lt_size q
    have hd : X.A.in1.handled = none := I.ok.hd hc
    have D := Draws.text (prog := X.prog) (w := X.w) (A := X.A.in1) hd it x t
    refine wpAny_pyNext_enum_itemD D he hit hg hne (by simpa using hne) fun u h' tk hu ho hit' hT hsz hk => ?_
    obtain ⟨c, t', hcx, rfl⟩ := hu
    refine ⟨_, rfl, wpAny_letOwnedTupleGo_enum (s := { s with heap := h', toks := tk + 1 }) ho fun h'' he' sb => ?_⟩
    have hT2 : h''.get? s.heap.objs.size = some { cls := .type "tuple", data := .seq #[.int i tk, .str ⟨#[c]⟩ t'] } := (sb.2 _ (Nat.ne_of_gt hel)).trans hT
    have new : ObjOk X.prog X.w (upd H s.heap.objs.size (.tup [.int (i : Nat), .str ⟨#[c]⟩])) h'' s.heap.objs.size (.tup [.int (i : Nat), .str ⟨#[c]⟩]) :=
      ⟨by show 2 ≤ sizeLine; decide, [.int i tk, .str ⟨#[c]⟩ t'], .cons ⟨_, rfl⟩ (.cons ⟨_, rfl⟩ .nil), ⟨_, hT2, rfl, _, rfl⟩⟩
    have I1 : Inv X pins σ (upd H s.heap.objs.size (.tup [.int (i : Nat), .str ⟨#[c]⟩])) { s with heap := h'', toks := tk + 1 } :=
      I.turnedNew (ch := [e, it]) (fun b ob hb q => (sb.2 b (fun z => hb (by simp [z]))).trans (hk b ob (fun z => hb (by simp [z])) (fun z => hb (by simp [z])) q)) hf (Nat.le_refl _) new
    refine ⟨.ref s.heap.objs.size, _, I1, rfl, ⟨_, c, rfl, I.hok.fresh (Nat.le_refl _), rfl, hcx⟩, ⟨⟨.str ⟨#[c]⟩ t', ?_⟩, ?_, hne⟩, fun b hb => ?_⟩
    · have e1 : ((i + 1 : Nat) : Int) = (i : Int) + 1 := by omega
      rw [e1]; exact he'
    · obtain ⟨o, q, r⟩ := hit'
      exact ⟨o, (sb.2 it (Ne.symm hne)).trans q, r⟩
    · have hb' : b < s.heap.objs.size := by
        have e' : b = e ∨ b = it := by simpa using hb
        rcases e' with z | z
        · rw [z]; exact hel
        · rw [z]; exact hil
      rw [upd_ne (Nat.ne_of_lt hb')]
      exact (hf b hb).1
  done := by
    intro X hP hw hK hc i pins s σ H E I hf st hg
    subst hP hw hK
    obtain ⟨⟨old, he⟩, hit, hne⟩ := st
    obtain ⟨f0, f1, f2, f3, f4, f5⟩ := hf it (by simp)
    have hd : X.A.in1.handled = none := I.ok.hd hc
    have D := Draws.text (prog := X.prog) (w := X.w) (A := X.A.in1) hd it x t
    have hg' : i = x.cps.size := hg
    rw [hg'] at hit
    exact wpAny_pyNext_enum_endD D he hit fun h' eb => ⟨rfl, I.turned (t' := s.toks) (fun b o hb q => eb b o hb q) f0 f1 f3 f4 f5⟩
  self := fun A i s Q E st h => let ⟨⟨_, he⟩, _⟩ := st; wpAny_pyIter_enum he h
def iEnumS (ta : TA) : TI := fun σ H R => ta σ H fun vs H1 => ∃ x, vs = [.str x] ∧ R (ItE x) H1
theorem pi_enumS {X : Cx} {e : Expr} {ta : TA} {p pos tpos : Pos} {elts : List Expr} {kk : Nat} (hg : Gl X "enumerate") (hm : X.mg "enumerate" = none) (ha : PA X [e] ta) (hs : starEach [e] X.env = [(false, eval e X.env)] := by rfl) :
    PI X (.Tuple elts kk tpos) (.Call (.Name "enumerate" p) [e] [] pos) (iEnumS ta) := by
  refine ⟨fun pins s σ H R I h => ?_⟩
  refine Call_ (ld_blt I hg hm boot_enumerate (PyProof.Rows.callWith_type1 (thn (ha.run pos pins s σ H _ I h) fun us s1 ⟨vs, H1, I1, r1, q1⟩ => ?_) hs rfl))
  obtain ⟨x, ex, q⟩ := q1
  subst ex
  cases r1 with
  | cons r rr =>
    cases rr
    obtain ⟨t, rfl⟩ := r
    refine call_enumerate_str fun h' he hit hsz hk => wpAny_pyIter_enum he ?_
    have I2 : Inv X pins σ H1 { s1 with heap := h' } := I1.kept (t' := s1.toks) hk
    refine ⟨s1.heap.objs.size + 1, [s1.heap.objs.size + 1, s1.heap.objs.size], _, _, H1, rfl, I2, turn_enumS (s1.heap.objs.size + 1) s1.heap.objs.size x t, ⟨⟨.none, he⟩, hit, Nat.succ_ne_self _⟩, fun b hb => ?_, q⟩
    have e' : b = s1.heap.objs.size + 1 ∨ b = s1.heap.objs.size := by simpa using hb
    have hle : s1.heap.objs.size ≤ b := by
      rcases e' with z | z
      · rw [z]; exact Nat.le_add_right _ _
      · rw [z]; exact Nat.le_refl _
    exact I1.fpOk hle (I1.hok.fresh hle)
theorem walk_enumS {x : PySem.Str} : Walk (ItE x) x.cps.size (fun _ => True) (fun i H v H' => ∃ T c, v = .ref T ∧ H T = none ∧ H' = upd H T (.tup [.int (i : Nat), .str ⟨#[c]⟩]) ∧ x.cps[i]? = some c) :=
  ⟨fun _ _ hi _ => hi, fun _ _ => rfl, fun _ _ _ _ _ _ y => y⟩
section
variable {X : Cx}
theorem pi_listK {tg l : Expr} {tl : TE} (K : PySem.W.Frag) (hK : X.K = K) (hl : PE X l tl) : PI X tg l (iList K tl) := by
  subst hK
  exact pi_list hl
theorem pg_tupK {es : List Expr} {k : Nat} {t : TGs} {n : Nat} {pos : Pos} (K : PySem.W.Frag) (hK : X.K = K) (hc : X.calm = true) (h : PGs X es t)
    (hn : (assignEach es X.env).length = n := by rfl) (hst : (assignEach es X.env).findIdx? (·.1) = none := by rfl) : PG X (.Tuple es k pos) (gTup K n t) := by
  subst hK
  exact pg_tup hc h hn hst
end
end Bm
namespace Bm
open PySem PySem.Spec PyProof.Rows L2 Evl
/-! ### patterns as texts -/
def sg (b : Bool) : Nat := if b then 49 else 48
def txt (p : List Bool) : PySem.Str := ⟨(p.map sg).toArray⟩
theorem txt_cps (p : List Bool) : (txt p).cps.toList = p.map sg := rfl
theorem txt_len (p : List Bool) : (txt p).length = p.length := by
  show (p.map sg).toArray.size = p.length
  simp
theorem txt_size (p : List Bool) : (txt p).cps.size = p.length := txt_len p
theorem txt_at {p : List Bool} {i : Nat} (h : i < p.length) : (p.map sg)[i]? = some (sg (p.getD i false)) := by
  rw [List.getElem?_map, List.getElem?_eq_getElem h, List.getD_eq_getElem?_getD, List.getElem?_eq_getElem h]
  rfl
theorem sg_inj {a b : Bool} (h : sg a = sg b) : a = b := by
  cases a <;> cases b <;> first | rfl | (exact absurd h (by decide))
theorem map_sg_inj : ∀ {p q : List Bool}, p.map sg = q.map sg → p = q
  | [], [], _ => rfl
  | [], _ :: _, h => by simp at h
  | _ :: _, [], h => by simp at h
  | a :: p, b :: q, h => by
    simp only [List.map_cons, List.cons.injEq] at h
    rw [sg_inj h.1, map_sg_inj h.2]
theorem txt_inj {p q : List Bool} (h : txt p = txt q) : p = q := by
  have e := congrArg (fun z : PySem.Str => z.cps.toList) h
  exact map_sg_inj e
theorem one_is (b : Bool) : decide (V.str ⟨#[sg b]⟩ = V.str "1") = b := by
  cases b <;> decide
theorem sg_one : sg true = 49 := rfl
theorem has1 (p : List Bool) : decide (49 ∈ (txt p).cps.toList) = decide (true ∈ p) := by
  rw [txt_cps]
  congr 1
  apply propext
  constructor
  · intro h
    obtain ⟨b, hb, e⟩ := List.mem_map.mp h
    have : b = true := sg_inj (e.trans sg_one.symm)
    rw [← this]; exact hb
  · intro h
    exact List.mem_map.mpr ⟨true, h, rfl⟩
theorem szl {n : Nat} (h : n ≤ 1000) : n ≤ sizeLine := Nat.le_of_lt (small1000 h)
/-! ### more evaluations -/
section
variable {K : PySem.W.Frag} {σ : L2.St} {H H' : Hp} {ta tb tc te : TE} {x y z v : V}
def rLenStr : List V → Hp → VK → Prop := fun xs H Q => ∃ z, xs = [.str z] ∧ z.length ≤ sizeLine ∧ Q (.int z.length) H
theorem ev_lenS {p : List Bool} (ha : Ev ta σ H (.str (txt p))) (h : p.length ≤ 1000) : Ev (tCB rLenStr (tCons ta tNil)) σ H (.int (p.length : Nat)) := fun H1 e Q q =>
  ha H1 e _ fun H2 e2 => ⟨txt p, rfl, by rw [txt_len]; exact szl h, by rw [txt_len]; exact q H2 e2⟩
theorem ev_addN {a b : Nat} (ha : Ev ta σ H (.int (a : Nat))) (hb : Ev tb σ H (.int (b : Nat))) : Ev (tOp (rI0 fun i j => .int (i + j)) ta tb) σ H (.int ((a + b : Nat) : Int)) :=
  ev_is (ev_op ha hb rv_I0) (by show V.int ((a : Int) + (b : Int)) = _; rw [Int.natCast_add])
theorem ev_mulN {a b : Nat} (ha : Ev ta σ H (.int (a : Nat))) (hb : Ev tb σ H (.int (b : Nat))) (h : a ≤ 1000000) : Ev (tOp (rI CMul fun i j => .int (i * j)) ta tb) σ H (.int ((a * b : Nat) : Int)) :=
  ev_is (ev_op ha hb (rv_I (Or.inl ⟨by omega, by omega⟩))) (by show V.int ((a : Int) * (b : Int)) = _; rw [Int.natCast_mul])
theorem ev_modN {a b : Nat} (ha : Ev ta σ H (.int (a : Nat))) (hb : Ev tb σ H (.int (b : Nat))) (h : 0 < b) : Ev (tOp (rI (fun _ j => 0 < j) fun i j => .int (i % j)) ta tb) σ H (.int ((a % b : Nat) : Int)) :=
  ev_is (ev_op ha hb (rv_I (by show (0 : Int) < (b : Int); omega))) (by show V.int ((a : Int) % (b : Int)) = _; rw [Int.natCast_emod])
theorem ev_ixP {p : List Bool} {i : Nat} (ha : Ev ta σ H (.str (txt p))) (hb : Ev tb σ H (.int (i : Nat))) (hi : i < p.length) (hl : p.length ≤ 1000) : Ev (tOp rIxS ta tb) σ H (.str ⟨#[sg (p.getD i false)]⟩) :=
  ev_op ha hb (rv_ixS (by rw [txt_len]; omega) (by rw [txt_cps]; exact atI_nat (txt_at hi)))
theorem ev_is1 {b : Bool} (ha : Ev ta σ H (.str ⟨#[sg b]⟩)) (hb : Ev tb σ H (.str "1")) : Ev (tOp rEq ta tb) σ H (.bl b) :=
  ev_is (ev_op ha hb (rv_eq rfl)) (by rw [one_is])
theorem ev_no1 {b : Bool} (ha : Ev ta σ H (.str ⟨#[sg b]⟩)) (hb : Ev tb σ H (.str "1")) : Ev (tOp rNe ta tb) σ H (.bl (!b)) :=
  ev_is (ev_op ha hb (rv_ne rfl)) (by rw [one_is])
def rSignNot : R2 := fun x y H Q => ∃ (c : Nat) (z : PySem.Str), x = .str ⟨#[c]⟩ ∧ y = .str z ∧ Q (.bl (!decide (c ∈ z.cps.toList))) H
def rSignIn : R2 := fun x y H Q => ∃ (c : Nat) (z : PySem.Str), x = .str ⟨#[c]⟩ ∧ y = .str z ∧ Q (.bl (decide (c ∈ z.cps.toList))) H
theorem ev_no1in {p : List Bool} (ha : Ev ta σ H (.str "1")) (hb : Ev tb σ H (.str (txt p))) : Ev (tOp rSignNot ta tb) σ H (.bl (!decide (true ∈ p))) :=
  ev_op ha hb fun H1 _ _ q => ⟨49, txt p, rfl, rfl, by rw [has1]; exact q H1 (Ex.refl H1)⟩
theorem ev_1in {p : List Bool} (ha : Ev ta σ H (.str "1")) (hb : Ev tb σ H (.str (txt p))) : Ev (tOp rSignIn ta tb) σ H (.bl (decide (true ∈ p))) :=
  ev_op ha hb fun H1 _ _ q => ⟨49, txt p, rfl, rfl, by rw [has1]; exact q H1 (Ex.refl H1)⟩
def rIsN : R2 := fun x y H Q => y = .non ∧ Q (.bl (decide (x = .non))) H
def rNotN : R2 := fun x y H Q => y = .non ∧ Q (.bl (!decide (x = .non))) H
theorem ev_isN (ha : Ev ta σ H x) : Ev (tOp rIsN ta (tC .non)) σ H (.bl (decide (x = .non))) :=
  ev_op ha ev_c fun H1 _ _ q => ⟨rfl, q H1 (Ex.refl H1)⟩
theorem ev_notN (ha : Ev ta σ H x) : Ev (tOp rNotN ta (tC .non)) σ H (.bl (!decide (x = .non))) :=
  ev_op ha ev_c fun H1 _ _ q => ⟨rfl, q H1 (Ex.refl H1)⟩
/-- an optional moment as a value -/
def oV : Option Nat → V
  | none => .non
  | some m => .int (m : Nat)
theorem oV_is (o : Option Nat) : decide (oV o = .non) = o.isNone := by
  cases o <;> rfl
/-! ### loops over enumerate(text) -/
theorem s_forES {ta : TA} {s : PySem.Str} {g : TG} {tu : TS} {D : Ends} (h : EvA ta σ H [.str s]) (Pv : Nat → L2.St → Hp → Prop) (h0 : ∀ H1, Ex H H1 → Pv 0 σ H1)
    (hs : ∀ i T c σ' H', s.cps[i]? = some c → Pv i σ' H' → H' T = none → g (.ref T) σ' (upd H' T (.tup [.int (i : Nat), .str ⟨#[c]⟩])) fun σ2 H2 => tu { D with nx := Pv (i + 1), ct := Pv (i + 1), bk := D.nx } σ2 H2)
    (hd : ∀ σ' H', Pv s.cps.size σ' H' → D.nx σ' H') : tFor (iEnumS ta) g tu D σ H :=
  h H (Ex.refl H) _ fun H1 e => ⟨s, rfl, for_it walk_enumS Pv (h0 H1 e) (fun _ _ _ _ _ => trivial) (fun i v σ' H' H2 _ p y => by
    obtain ⟨T, c, rfl, hT, rfl, hc⟩ := y
    exact hs i T c σ' H' hc p hT) hd⟩
theorem g_two {T : Addr} {x1 x2 : V} {i j : Nat} {Q : L2.St → Hp → Prop} (h : Q ((σ.set i (some x1)).set j (some x2)) (upd H T (.tup [x1, x2]))) :
    gTup K 2 (gCons (gName i) (gCons (gName j) gNil)) (.ref T) σ (upd H T (.tup [x1, x2])) Q :=
  ⟨T, [x1, x2], rfl, .inl (.inl upd_same), rfl, x1, [x2], rfl, x2, [], rfl, rfl, h⟩
theorem fault_txt {p : List Bool} (h : Pat 12 p) : fault (txt p).cps.toList = none := by
  have hn : (List.range (p.map sg).length).find? (fun i => badAt ((p.map sg).getD i 0) i) = none := find_range_no fun i hi => by
    rw [List.length_map] at hi
    have hh := h.hi
    have e : (p.map sg).getD i 0 = sg (p.getD i false) := by
      rw [List.getD_eq_getElem?_getD, txt_at hi]
      rfl
    rw [e]
    unfold badAt
    rw [decide_eq_false (by omega)]
    cases p.getD i false <;> rfl
  rw [txt_cps]
  unfold fault
  rw [hn]
  show (if 49 ∈ p.map sg then none else some (p.map sg).length) = none
  exact if_pos (List.mem_map.mpr ⟨true, h.has, rfl⟩)
/-- all but what stands at D is as it was -/
def ExB (D : Addr) (H H' : Hp) : Prop := ∀ a o, a ≠ D → H a = some o → H' a = some o
theorem Ex.b {D : Addr} (e : Ex H H') : ExB D H H' := fun a o _ h => e a o h
theorem ExB.refl {D : Addr} : ExB D H H := fun _ _ _ h => h
theorem ExB.trans {D : Addr} {H1 H2 : Hp} (a : ExB D H H1) (b : ExB D H1 H2) : ExB D H H2 := fun x o n h => b x o n (a x o n h)
theorem ExB.upd {D : Addr} {o : HO} : ExB D H (upd H D o) := fun a o n h => by rw [upd_ne n]; exact h
/-- the dice stand at D, all else that G tells stands -/
structure DD (D : Addr) (G H : Hp) : Prop where
  no : G D = none
  ex : Ex G H
  at_ : ∃ ds : List Int, 2 ≤ ds.length ∧ H D = some (.lst (ds.map V.int))
theorem DD.b {D : Addr} {G : Hp} {ds : List Int} (d : DD D G H) (e : ExB D H H') (h2 : 2 ≤ ds.length) (h : H' D = some (.lst (ds.map V.int))) : DD D G H' :=
  ⟨d.no, fun a o q => e a o (ne_of_none q d.no) (d.ex a o q), ds, h2, h⟩
theorem DD.up {D : Addr} {G : Hp} (d : DD D G H) (e : Ex H H') : DD D G H' := by
  obtain ⟨ds, h2, h⟩ := d.at_
  exact d.b (Ex.b e) h2 (e _ _ h)
/-- what stands besides the dice -/
def off_ (H : Hp) (D : Addr) : Hp := fun a => if a = D then none else H a
theorem DD.all {D : Addr} {G : Hp} (d : DD D G H) : DD D (off_ H D) H ∧ Ex G (off_ H D) := by
  refine ⟨⟨by unfold off_; rw [if_pos rfl], fun a o q => ?_, d.at_⟩, fun a o q => ?_⟩
  · unfold off_ at q
    split at q
    · cases q
    · exact q
  · unfold off_
    rw [if_neg (ne_of_none q d.no)]
    exact d.ex a o q
theorem el_cat {xs ys : List V} (ha : EvL ta σ H xs) (hb : EvL tb σ H ys) (hz : xs.length + ys.length ≤ 100000) : EvL (tOp rCat ta tb) σ H (xs ++ ys) := fun H1 e Q q =>
  ha H1 e _ fun p H2 hp e2 h2 => hb H2 (e.trans e2) _ fun p' H3 hp' e3 h3 => ⟨p, p', xs, ys, rfl, rfl, e3 p _ h2, h3, sz_of hz, fun l hl => q l _ (fresh_back (e2.trans e3) hl) ((e2.trans e3).trans (Ex.new hl)) upd_same⟩
theorem ev_cbL {r : List V → Hp → VK → Prop} {xs : List V} (ha : EvL ta σ H xs) (hr : ∀ p H1, H1 p = some (.lst xs) → Ex H H1 → RC r [.ref p] H1 z) : Ev (tCB r (tCons ta tNil)) σ H z := fun H1 e Q q =>
  ha H1 e _ fun p H2 hp e2 h2 => hr p H2 h2 (e.trans e2) H2 (Ex.refl H2) Q fun H3 e3 => q H3 (e2.trans e3)
/-! ### readings where the heap changes -/
theorem r_op {r : R2} {Q : VK} (ha : Ev ta σ H x) (hb : ∀ H1, Ex H H1 → tb σ H1 fun y H2 => r x y H2 Q) : tOp r ta tb σ H Q := ha H (Ex.refl H) _ hb
theorem r_opc {r : R2} {Q : VK} {c : V} (ha : ta σ H fun x H1 => r x c H1 Q) : tOp r ta (tC c) σ H Q := ha
theorem r_op2 {r : R2} {Q : VK} (ha : ta σ H fun x H1 => tb σ H1 fun y H2 => r x y H2 Q) : tOp r ta tb σ H Q := ha
theorem r_cb1 {r : List V → Hp → VK → Prop} {Q : VK} (ha : ta σ H fun x H1 => r [x] H1 Q) : tCB r (tCons ta tNil) σ H Q := ha
theorem r_call {sp : Sp} {E : XK} {ta : TA} {vs : List V} {Q : VK} (h : EvA ta σ H vs) (hs : ∀ H1, Ex H H1 → sp (vs ++ []) H1 Q E) : tCall sp [] E ta σ H Q := h H (Ex.refl H) _ hs
theorem r_call2 {sp : Sp} {E : XK} {Q : VK} (h : ta σ H fun x H1 => tb σ H1 fun y H2 => sp [x, y] H2 Q E) : tCall sp [] E (tCons ta (tCons tb tNil)) σ H Q := h
theorem r_asg {i : Nat} {D : Ends} (h : te σ H fun x H1 => D.nx (σ.set i (some x)) H1) : tAsg te (gName i) D σ H := h
theorem r_qasg {i : Nat} {D : Ends} {tz : TS} (h : te σ H fun x H1 => tz D (σ.set i (some x)) H1) : tSeq (tAsg te (gName i)) tz D σ H := h
theorem r_qdrop {D : Ends} {tz : TS} (h : te σ H fun x H1 => tz D σ H1) : tSeq (tDrop te) tz D σ H := h
theorem r_qpar {i j : Nat} {D : Ends} {tz : TS} (h : ta σ H fun x H1 => tb σ H1 fun y H2 => ∃ v w, [x, y] = [v, w] ∧ tz D ((σ.set i (some v)).set j (some w)) H2) : tSeq (tPar i j (tCons ta (tCons tb tNil))) tz D σ H := h
theorem r_par {i j : Nat} {D : Ends} (h : ta σ H fun x H1 => tb σ H1 fun y H2 => ∃ v w, [x, y] = [v, w] ∧ D.nx ((σ.set i (some v)).set j (some w)) H2) : tPar i j (tCons ta (tCons tb tNil)) D σ H := h
theorem r_ret {D : Ends} (h : te σ H D.rt) : tRet te D σ H := h
theorem r_if {t : TT} {D : Ends} {tu tw : TS} (h : t σ H fun b H1 => if b = true then tu D σ H1 else tw D σ H1) : tIfS t tu tw D σ H := h
theorem r_qif {t : TT} {D : Ends} {tu tw tz : TS} (h : t σ H fun b H1 => if b = true then tu { D with nx := tz D } σ H1 else tw { D with nx := tz D } σ H1) : tSeq (tIfS t tu tw) tz D σ H := h
theorem r_test {Q : Bool → Hp → Prop} (h : te σ H fun x H1 => ∃ k, x = .bl k ∧ Q k H1) : tTest te σ H Q := h
theorem r_B {Q : Bool → Hp → Prop} (h : te σ H fun x H1 => ∃ k, x = .bl k ∧ Q k H1) : tB te σ H Q := h
theorem r_yes {Q1 : VK} {Q2 : Hp → Prop} (h : te σ H Q1) : tYes σ H (fun b H3 => if b = true then te σ H3 Q1 else Q2 H3) := by
  show if true = true then te σ H Q1 else Q2 H
  exact iteT h
/-! ### isinstance -/
theorem ty_l {a : Addr} {xs : List V} (h : SqL K H a xs) : TyX K H (.ref a) (.type "list") := by
  rcases h with (h | ⟨o, h⟩) | ⟨o, _, _, h1, h2, _⟩
  · exact .base (.lst h)
  · exact .base (.frz h)
  · exact .kList h1 h2
theorem ty_t {a : Addr} {xs : List V} (h : SqT K H a xs) : TyX K H (.ref a) (.type "tuple") := by
  rcases h with (h | ⟨o, h⟩) | ⟨o, _, _, h1, h2, _⟩
  · exact .base (.tup h)
  · exact .fTuple h
  · exact .kTuple h1 h2
theorem ev_isi {a b : String} {r : Bool} (ha : Ev ta σ H x) (ht : ∀ H1, Ex H H1 → TyX K H1 x (.type a)) (hk : kitB a b = some r) : Ev (tCB (rIsi K) (tCons ta (tCons (tC (.ty b)) tNil))) σ H (.bl r) := fun H1 e Q q =>
  ha H1 e _ fun H2 e2 => ⟨x, .ty b, .type a, .type b, r, rfl, .ty b, ht H2 (e.trans e2), kit_ty hk, q H2 e2⟩
/-- v and u are the same data, n deep -/
def sc1 : V → Bool
  | .non => true
  | .bl _ => true
  | .int _ => true
  | .str _ => true
  | _ => false
def Al (K : PySem.W.Frag) (H : Hp) : Nat → V → V → Prop
  | 0, v, u => v = u ∧ sc1 v = true
  | n + 1, v, u => (v = u ∧ sc1 v = true) ∨ ∃ a b xs ys, v = .ref a ∧ u = .ref b ∧ ((SqL K H a xs ∧ SqL K H b ys) ∨ (SqT K H a xs ∧ SqT K H b ys)) ∧ xs.length = ys.length ∧ xs.length ≤ 40000 ∧
      ∀ (i : Nat) x y, xs[i]? = some x → ys[i]? = some y → Al K H n x y
theorem Al.up (e : Ex H H') : ∀ {n : Nat} {v u : V}, Al K H n v u → Al K H' n v u
  | 0, _, _, h => h
  | n + 1, _, _, h => by
    rcases h with h | ⟨a, b, xs, ys, e1, e2, h3, h4, h5, h6⟩
    · exact .inl h
    · refine .inr ⟨a, b, xs, ys, e1, e2, ?_, h4, h5, fun i x y hx hy => Al.up e (h6 i x y hx hy)⟩
      rcases h3 with ⟨p, q⟩ | ⟨p, q⟩
      · exact .inl ⟨ex_l e p, ex_l e q⟩
      · exact .inr ⟨ex_t e p, ex_t e q⟩
theorem al_sc {n : Nat} (h : sc1 v = true) : Al K H n v v := by
  cases n with
  | zero => exact ⟨rfl, h⟩
  | succ n => exact .inl ⟨rfl, h⟩
/-! ### texts -/
theorem str_ext {a b : PySem.Str} (h : a.cps.toList = b.cps.toList) : a = b := by
  obtain ⟨⟨x⟩⟩ := a
  obtain ⟨⟨y⟩⟩ := b
  have h : x = y := h
  rw [h]
theorem joinL_nil : ∀ ps : List (List Nat), TL.joinL [] ps = ps.flatten
  | [] => rfl
  | [p] => by simp [TL.joinL]
  | p :: q :: r => by
    show p ++ ([] ++ TL.joinL [] (q :: r)) = _
    rw [joinL_nil (q :: r)]
    rfl
theorem flat_one : ∀ p : List Bool, (p.map fun b => [sg b]).flatten = p.map sg
  | [] => rfl
  | b :: p => by
    show [sg b] ++ (p.map fun b => [sg b]).flatten = sg b :: p.map sg
    rw [flat_one p]
    rfl
theorem join_txt (p : List Bool) : Txt.join "" (p.map fun b => (⟨#[sg b]⟩ : PySem.Str)) = txt p := by
  apply str_ext
  rw [TL.join_eq]
  refine (TL.tl_join "" _).trans ?_
  show TL.joinL [] _ = p.map sg
  rw [joinL_nil, List.map_map, ← flat_one]
  rfl
theorem txt_app (p q : List Bool) : txt p ++ txt q = txt (p ++ q) := by
  apply str_ext
  show ((txt p).cps ++ (txt q).cps).toList = (p ++ q).map sg
  rw [Array.toList_append, List.map_append]
  rfl
theorem cut_drop (p : List Bool) (k : Nat) : cutS (txt p) (some (k : Nat)) none = txt (p.drop k) := by
  apply str_ext
  show ((p.map sg).drop (HT.sIx (txt p).length 0 (some (k : Nat)))).take (HT.sIx (txt p).length (txt p).length none - HT.sIx (txt p).length 0 (some (k : Nat))) = (p.drop k).map sg
  rw [txt_len, show HT.sIx p.length 0 (some ((k : Nat) : Int)) = min k p.length from HT.sIx_nat _ _ _, HT.sIx_none, ← List.map_drop, ← List.map_take]
  congr 1
  rw [List.take_of_length_le (by rw [List.length_drop]; exact Nat.le_refl _)]
  by_cases h : k ≤ p.length
  · rw [Nat.min_eq_left h]
  · rw [Nat.min_eq_right (by omega), List.drop_length, List.drop_eq_nil_of_le (by omega)]
theorem cut_take (p : List Bool) (k : Nat) : cutS (txt p) none (some (k : Nat)) = txt (p.take k) := by
  apply str_ext
  show ((p.map sg).drop (HT.sIx (txt p).length 0 none)).take (HT.sIx (txt p).length (txt p).length (some (k : Nat)) - HT.sIx (txt p).length 0 none) = (p.take k).map sg
  rw [txt_len, show HT.sIx p.length p.length (some ((k : Nat) : Int)) = min k p.length from HT.sIx_nat _ _ _, HT.sIx_none, List.drop_zero, Nat.sub_zero, ← List.map_take]
  congr 1
  by_cases h : k ≤ p.length
  · rw [Nat.min_eq_left h]
  · rw [Nat.min_eq_right (by omega), List.take_length, List.take_of_length_le (by omega)]
def rAddS : R2 := fun x y H Q => ∃ i j, x = .str i ∧ y = .str j ∧ i.length + j.length ≤ sizeLine ∧ Q (.str (i ++ j)) H
theorem ev_addS {p q : List Bool} (ha : Ev ta σ H (.str (txt p))) (hb : Ev tb σ H (.str (txt q))) (hz : p.length + q.length ≤ 1000) : Ev (tOp rAddS ta tb) σ H (.str (txt (p ++ q))) :=
  ev_op ha hb fun H1 _ _ q' => ⟨txt p, txt q, rfl, rfl, by rw [txt_len, txt_len]; exact szl hz, by rw [txt_app]; exact q' H1 (Ex.refl H1)⟩
theorem ev_drop {p : List Bool} {k : Nat} (ha : Ev ta σ H (.str (txt p))) (hb : Ev tb σ H (.int (k : Nat))) (hz : p.length ≤ 1000) : Ev (tSl rSlS ta (tPart tb) tNoPart) σ H (.str (txt (p.drop k))) := fun H1 e Q q =>
  ha H1 e _ fun H2 e2 => hb H2 (e.trans e2) _ fun H3 e3 => ⟨_, rfl, txt p, rfl, by rw [txt_len]; exact szl hz, by rw [cut_drop]; exact q H3 (e2.trans e3)⟩
theorem ev_take {p : List Bool} {k : Nat} (ha : Ev ta σ H (.str (txt p))) (hb : Ev tb σ H (.int (k : Nat))) (hz : p.length ≤ 1000) : Ev (tSl rSlS ta tNoPart (tPart tb)) σ H (.str (txt (p.take k))) := fun H1 e Q q =>
  ha H1 e _ fun H2 e2 => hb H2 (e.trans e2) _ fun H3 e3 => ⟨_, rfl, txt p, rfl, by rw [txt_len]; exact szl hz, by rw [cut_take]; exact q H3 (e2.trans e3)⟩
theorem txt1 : ("1" : PySem.Str) = txt [true] := rfl
theorem txt0 : ("0" : PySem.Str) = txt [false] := rfl
end
/-- one sign, so many times -/
def rRepS : R2 := fun x y H Q => ∃ (c n : Nat), x = .str ⟨#[c]⟩ ∧ y = .int (n : Nat) ∧ n ≤ 1000 ∧ Q (.str ⟨(List.replicate n c).toArray⟩) H
theorem rep_fold (c : Nat) : ∀ (n : Nat) (acc : Array Nat), ((List.replicate n (#[c] : Array Nat)).foldl (· ++ ·) acc).toList = acc.toList ++ List.replicate n c
  | 0, acc => by simp
  | n + 1, acc => by
    rw [List.replicate_succ, List.foldl_cons, rep_fold c n, List.replicate_succ]
    simp
theorem op_rep_str {X : Cx} : OpR X (binaryOp .Mult) rRepS := by
  intro pins s σ H x y v u Q I rx ry h
  obtain ⟨c, n, rfl, rfl, hn, q⟩ := h
  obtain ⟨t, rfl⟩ := rx
  obtain ⟨t', rfl⟩ := ry
  have hsz : (1 : Nat) ≤ sizeLine := by decide
  have hl1 : (⟨#[c]⟩ : PySem.Str).length = 1 := rfl
  refine PySem.P.mul_str ?_ ?_ ?_ ?_
  · rw [decide_eq_false (by omega), decide_eq_false (by omega)]
    rfl
  · intro h1 _
    rw [hl1]
    intro h2
    have h3 : ((2 : Int) ^ 63 - 1) / (n : Int) ≥ 1 := (Int.le_ediv_iff_mul_le (by omega)).mpr (by omega)
    omega
  · intro h1 _
    show decide ((⟨#[c]⟩ : PySem.Str).length * ((n : Int)).toNat > sizeLine) = false
    rw [hl1, Nat.one_mul, Int.toNat_natCast]
    exact decide_eq_false (Nat.not_lt.mpr (szl hn))
  · by_cases h0 : n = 0
    · subst h0
      rw [if_pos (by decide)]
      exact ⟨by decide, ⟨.str ⟨#[]⟩, H, I.tok _, ⟨_, rfl⟩, q⟩⟩
    · rw [if_neg (by omega)]
      by_cases h1 : n = 1
      · subst h1
        rw [if_pos (by simp)]
        exact ⟨.str ⟨#[c]⟩, H, I, ⟨_, rfl⟩, q⟩
      · have hb : (((n : Int) == 1) || (⟨#[c]⟩ : PySem.Str).length == 0) = false := by
          rw [hl1]
          simp
          omega
        rw [if_neg (by rw [hb]; exact Bool.false_ne_true)]
        have e : (⟨(List.replicate ((n : Int)).toNat (⟨#[c]⟩ : PySem.Str).cps).foldl (· ++ ·) #[]⟩ : PySem.Str) = ⟨(List.replicate n c).toArray⟩ := by
          apply str_ext
          rw [Int.toNat_natCast]
          show ((List.replicate n (#[c] : Array Nat)).foldl (· ++ ·) #[]).toList = List.replicate n c
          rw [rep_fold]
          rfl
        rw [e]
        refine ⟨?_, ⟨.str ⟨(List.replicate n c).toArray⟩, H, I.tok _, ⟨_, rfl⟩, q⟩⟩
        show (List.replicate n c).toArray.size ≤ sizeLine
        rw [List.size_toArray, List.length_replicate]
        exact szl hn
theorem rep_txt (n : Nat) (b : Bool) : (⟨(List.replicate n (sg b)).toArray⟩ : PySem.Str) = txt (List.replicate n b) := by
  unfold txt
  rw [List.map_replicate]
theorem ev_repS {σ : L2.St} {H : Hp} {ta tb : TE} {b : Bool} {n : Nat} (ha : Ev ta σ H (.str (txt [b]))) (hb : Ev tb σ H (.int (n : Nat))) (hn : n ≤ 1000) : Ev (tOp rRepS ta tb) σ H (.str (txt (List.replicate n b))) :=
  ev_op ha hb fun H1 _ _ q' => ⟨sg b, n, rfl, rfl, hn, by rw [rep_txt]; exact q' H1 (Ex.refl H1)⟩
/-! ### the beats awake, as values -/
def onesV (p : List Bool) : List V := (ones p).map fun i => V.int (i : Nat)
theorem ones_given (p : List Bool) : given p.length (fun i => p.getD i false) (fun i => .int (i : Nat)) = onesV p := rfl
def spOnes : Sp := fun vs H Q _ => ∃ p : List Bool, vs = [.str (txt p)] ∧ p.length ≤ 1000 ∧ RetL (onesV p) H Q
theorem in_onesV {p : List Bool} (h : 0 < p.length) (i : Nat) : inV (.int ((i % p.length : Nat) : Int)) (onesV p) = aw p i := by
  rw [aw_iff h]
  unfold inV onesV
  rw [List.any_map]
  have e : ∀ j : Nat, ((fun y => eqV y (.int ((i % p.length : Nat) : Int))) ∘ fun j : Nat => V.int (j : Nat)) j = decide (j = i % p.length) := by
    intro j
    show decide (((j : Nat) : Int) = ((i % p.length : Nat) : Int)) = _
    exact decide_eq_decide.mpr (by omega)
  rw [List.any_eq]
  refine decide_eq_decide.mpr ?_
  constructor
  · rintro ⟨j, hj, h2⟩
    rw [e j] at h2
    rw [← of_decide_eq_true h2]
    exact hj
  · intro h2
    exact ⟨_, h2, by rw [e]; exact decide_eq_true rfl⟩
theorem onesV_flat (p : List Bool) : (onesV p).all flatV = true := by
  unfold onesV
  rw [List.all_map, List.all_eq_true]
  intro _ _
  rfl
theorem onesV_len (p : List Bool) : (onesV p).length ≤ p.length := by
  unfold onesV ones
  rw [List.length_map]
  have := List.length_filter_le (fun i => p.getD i false) (List.range p.length)
  rw [List.length_range] at this
  exact this
theorem DD.set {D : Addr} {G H : Hp} {p : Addr} {o : HO} (d : DD D G H) (hp : G p = none) (hD : p ≠ D) : DD D G (upd H p o) := by
  obtain ⟨ds, h2, h⟩ := d.at_
  exact ⟨d.no, fun a u q => by rw [upd_ne (ne_of_none q hp)]; exact d.ex a u q, ds, h2, by rw [upd_ne hD.symm]; exact h⟩
theorem DD.ne {D : Addr} {G H : Hp} {p : Addr} (d : DD D G H) (hp : H p = none) : p ≠ D := by
  obtain ⟨ds, _, h⟩ := d.at_
  exact (ne_of_none h hp).symm
theorem ev_chain {K : PySem.W.Frag} {σ : L2.St} {H : Hp} {ta tb tc : TE} {r r' : R2} {x y z : V} {b c : Bool} (ha : Ev ta σ H x) (hb : Ev tb σ H y) (hc : Ev tc σ H z) (h1 : RV r x y H (.bl b)) (h2 : RV r' y z H (.bl c)) : Ev (tChain r r' ta tb tc) σ H (.bl (b && c)) := fun H1 e Q q =>
  ha H1 e _ fun H2 e2 => hb H2 (e.trans e2) _ fun H3 e3 => h1 H3 ((e.trans e2).trans e3) _ fun H4 e4 => ⟨b, rfl, by
    cases b with
    | true =>
      rw [if_pos rfl]
      exact hc H4 (((e.trans e2).trans e3).trans e4) _ fun H5 e5 => h2 H5 ((((e.trans e2).trans e3).trans e4).trans e5) _ fun H6 e6 => q H6 ((((e2).trans e3).trans e4).trans (e5.trans e6))
    | false =>
      rw [if_neg Bool.false_ne_true]
      exact q H4 ((e2.trans e3).trans e4)⟩
end Bm
namespace Bm
open PySem PySem.Spec PyProof.Rows L2 Evl
/-! ### cells: a plain value, or a tuple of plain values -/
inductive Cel where
  | v (x : V)
  | t (xs : List V)
def Is (K : PySem.W.Frag) (H : Hp) (v : V) : Cel → Prop
  | .v x => v = x
  | .t xs => ∃ a, v = .ref a ∧ SqT K H a xs
section
variable {K : PySem.W.Frag} {σ : L2.St} {H H' H1 H2 : Hp} {ta tb te tl : TE} {t : TT} {x y z v : V} {c : Cel}
theorem Is.up (h : Is K H v c) (e : Ex H H') : Is K H' v c := by
  cases c with
  | v x => exact h
  | t xs =>
    obtain ⟨a, h1, h2⟩ := h
    exact ⟨a, h1, ex_t e h2⟩
/-- all but lists is as it was -/
def ExT (H H' : Hp) : Prop := ∀ a xs, (H a = some (.tup xs) → H' a = some (.tup xs)) ∧ ∀ o, H a = some (.frz o (.tup xs)) → H' a = some (.frz o (.tup xs))
theorem Ex.toT (e : Ex H H') : ExT H H' := fun a xs => ⟨fun h => e _ _ h, fun o h => e _ _ h⟩
theorem ExB.toT {D : Addr} {l : List V} (e : ExB D H H') (hD : H D = some (.lst l)) : ExT H H' := fun a xs =>
  ⟨fun h => e _ _ (fun z => by rw [z, hD] at h; cases h) h, fun o h => e _ _ (fun z => by rw [z, hD] at h; cases h) h⟩
theorem ExT.upd {D : Addr} {l : List V} {o : HO} (hD : H D = some (.lst l)) : ExT H (upd H D o) := ExB.toT ExB.upd hD
theorem Is.ut (h : Is K H v c) (e : ExT H H') : Is K H' v c := by
  cases c with
  | v x => exact h
  | t xs =>
    obtain ⟨a, h1, h2⟩ := h
    refine ⟨a, h1, ?_⟩
    rcases h2 with (h | ⟨o, h⟩) | h
    · exact .inl (.inl ((e a xs).1 h))
    · exact .inl (.inr ⟨o, (e a xs).2 o h⟩)
    · exact .inr h
abbrev IsAll (K : PySem.W.Frag) (H : Hp) : List V → List Cel → Prop := Paired (Is K H)
theorem IsAll.up {xs : List V} {cs : List Cel} (h : IsAll K H xs cs) (e : Ex H H') : IsAll K H' xs cs := Paired.mapP h fun _ _ q => q.up e
theorem IsAll.ut {xs : List V} {cs : List Cel} (h : IsAll K H xs cs) (e : ExT H H') : IsAll K H' xs cs := Paired.mapP h fun _ _ q => q.ut e
theorem pr_get {α β : Type} {F : α → β → Prop} : ∀ {xs : List α} {ys : List β} {i : Nat} {x : α}, Paired F xs ys → xs[i]? = some x → ∃ y, ys[i]? = some y ∧ F x y
  | _, _, _, _, .nil, e => by simp at e
  | _, _, 0, _, .cons r _, e => by simp at e; subst e; exact ⟨_, rfl, r⟩
  | _, _, i + 1, x, .cons _ t, e => by
    obtain ⟨u, h1, h2⟩ := pr_get (i := i) (x := x) t (by simpa using e)
    exact ⟨u, by simpa using h1, h2⟩
theorem pr_get' {α β : Type} {F : α → β → Prop} : ∀ {xs : List α} {ys : List β} {i : Nat} {y : β}, Paired F xs ys → ys[i]? = some y → ∃ x, xs[i]? = some x ∧ F x y
  | _, _, _, _, .nil, e => by simp at e
  | _, _, 0, _, .cons r _, e => by simp at e; subst e; exact ⟨_, rfl, r⟩
  | _, _, i + 1, x, .cons _ t, e => by
    obtain ⟨u, h1, h2⟩ := pr_get' (i := i) (y := x) t (by simpa using e)
    exact ⟨u, by simpa using h1, h2⟩
theorem pr_len {α β : Type} {F : α → β → Prop} {xs : List α} {ys : List β} (h : Paired F xs ys) : xs.length = ys.length := Paired.length h
theorem pr_app {α β : Type} {F : α → β → Prop} : ∀ {xs xs' : List α} {ys ys' : List β}, Paired F xs ys → Paired F xs' ys' → Paired F (xs ++ xs') (ys ++ ys')
  | _, _, _, _, .nil, h => h
  | _, _, _, _, .cons r t, h => .cons r (pr_app t h)
theorem pr_vals : ∀ {xs ys : List V}, Paired (Is K H) xs (ys.map .v) → xs = ys
  | _, [], h => by cases h; rfl
  | _, y :: ys, h => by
    cases h with
    | cons r t =>
      rw [pr_vals t]
      exact congrArg (· :: ys) r
theorem vals_pr : ∀ ys : List V, Paired (Is K H) ys (ys.map .v)
  | [] => .nil
  | y :: ys => .cons rfl (vals_pr ys)
/-- evaluates to a cell; to a new list of cells -/
def EvC (K : PySem.W.Frag) (te : TE) (σ : L2.St) (H : Hp) (c : Cel) : Prop := ∀ H1, Ex H H1 → ∀ Q : VK, (∀ v H2, Ex H1 H2 → Is K H2 v c → Q v H2) → te σ H1 Q
def EvN (K : PySem.W.Frag) (te : TE) (σ : L2.St) (H : Hp) (cs : List Cel) : Prop := ∀ H1, Ex H H1 → ∀ Q : VK, (∀ p xs H2, H1 p = none → Ex H1 H2 → H2 p = some (.lst xs) → IsAll K H2 xs cs → Q (.ref p) H2) → te σ H1 Q
def RetC (K : PySem.W.Frag) (c : Cel) (H : Hp) (Q : VK) : Prop := ∀ v H2, Ex H H2 → Is K H2 v c → Q v H2
def RetN (K : PySem.W.Frag) (cs : List Cel) (H : Hp) (Q : VK) : Prop := ∀ p xs H2, H p = none → Ex H H2 → H2 p = some (.lst xs) → IsAll K H2 xs cs → Q (.ref p) H2
theorem EvC.mono (h : EvC K te σ H c) (e : Ex H H') : EvC K te σ H' c := fun H1 a Q q => h H1 (e.trans a) Q q
theorem EvN.mono {cs : List Cel} (h : EvN K te σ H cs) (e : Ex H H') : EvN K te σ H' cs := fun H1 a Q q => h H1 (e.trans a) Q q
theorem ec_ev (h : Ev te σ H x) : EvC K te σ H (.v x) := fun H1 e Q q => h H1 e Q fun H2 e2 => q x H2 e2 rfl
theorem ev_ec (h : EvC K te σ H (.v x)) : Ev te σ H x := fun H1 e Q q => h H1 e Q fun v H2 e2 i => by
  have i : v = x := i
  rw [i]
  exact q H2 e2
theorem en_el {xs : List V} (h : EvL te σ H xs) : EvN K te σ H (xs.map .v) := fun H1 e Q q => h H1 e Q fun p H2 hp e2 h2 => q p xs H2 hp e2 h2 (vals_pr xs)
theorem el_en {xs : List V} (h : EvN K te σ H (xs.map .v)) : EvL te σ H xs := fun H1 e Q q => h H1 e Q fun p ys H2 hp e2 h2 i => by
  rw [pr_vals i] at h2
  exact q p H2 hp e2 h2
theorem ec_var {i : Nat} (h : σ[i]? = some (some v)) (hi : Is K H v c) : EvC K (tVar i) σ H c := fun H1 e Q q => ⟨v, h, q v H1 (Ex.refl H1) (hi.up e)⟩
theorem ec_tup {ta : TA} {xs : List V} (h : EvA ta σ H xs) (hl : xs.length ≤ 1000) : EvC K (tTup ta) σ H (.t xs) := fun H1 e Q q =>
  h H1 e _ fun H2 e2 => ⟨szl hl, fun p hp => q _ _ (e2.trans (Ex.new hp)) ⟨p, rfl, .inl (.inl upd_same)⟩⟩
theorem ec_call {sp : Sp} {E : XK} {ta : TA} {vs : List V} (h : EvA ta σ H vs) (hs : ∀ H1, Ex H H1 → ∀ Q : VK, RetC K c H1 Q → sp (vs ++ []) H1 Q E) : EvC K (tCall sp [] E ta) σ H c := fun H1 e Q q =>
  h H1 e _ fun H2 e2 => hs H2 (e.trans e2) Q fun v H3 e3 i => q v H3 (e2.trans e3) i
theorem en_call {sp : Sp} {E : XK} {ta : TA} {vs : List V} {cs : List Cel} (h : EvA ta σ H vs) (hs : ∀ H1, Ex H H1 → ∀ Q : VK, RetN K cs H1 Q → sp (vs ++ []) H1 Q E) : EvN K (tCall sp [] E ta) σ H cs := fun H1 e Q q =>
  h H1 e _ fun H2 e2 => hs H2 (e.trans e2) Q fun p xs H3 hp e3 h3 i => q p xs H3 (fresh_back e2 hp) (e2.trans e3) h3 i
/-- c[i] of a tuple -/
theorem ev_ixC {xs : List V} {i : Nat} (h : EvC K ta σ H (.t xs)) (hb : Ev tb σ H (.int (i : Nat))) (hi : xs[i]? = some v) : Ev (tOp (rIxT K) ta tb) σ H v := fun H1 e Q q =>
  h H1 e _ fun w H2 e2 is => by
    obtain ⟨a, rfl, hs⟩ := is
    exact hb H2 (e.trans e2) _ fun H3 e3 => ⟨a, xs, (i : Nat), v, rfl, rfl, ex_t e3 hs, atI_nat hi, q H3 (e2.trans e3)⟩
theorem en_cat {cs ds : List Cel} (ha : EvN K ta σ H cs) (hb : EvN K tb σ H ds) (hz : cs.length + ds.length ≤ 100000) : EvN K (tOp rCat ta tb) σ H (cs ++ ds) := fun H1 e Q q =>
  ha H1 e _ fun p xs H2 hp e2 h2 i2 => hb H2 (e.trans e2) _ fun p' ys H3 hp' e3 h3 i3 => ⟨p, p', xs, ys, rfl, rfl, e3 p _ h2, h3, by rw [pr_len i2, pr_len i3]; exact sz_of hz, fun l hl => q l _ _ (fresh_back (e2.trans e3) hl) ((e2.trans e3).trans (Ex.new hl)) upd_same (pr_app ((i2.up e3).up (Ex.new hl)) (i3.up (Ex.new hl)))⟩
/-- a list that stands, + a new one -/
theorem en_catV {a : Addr} {xs : List V} {cs ds : List Cel} (ha : Ev ta σ H (.ref a)) (hx : H a = some (.lst xs)) (hi : IsAll K H xs cs) (hb : EvN K tb σ H ds) (hz : cs.length + ds.length ≤ 100000) : EvN K (tOp rCat ta tb) σ H (cs ++ ds) := fun H1 e Q q =>
  ha H1 e _ fun H2 e2 => hb H2 (e.trans e2) _ fun p' ys H3 hp' e3 h3 i3 => ⟨a, p', xs, ys, rfl, rfl, ((e.trans e2).trans e3) a _ hx, h3, by rw [pr_len hi, pr_len i3]; exact sz_of hz, fun l hl => q l _ _ (fresh_back (e2.trans e3) hl) ((e2.trans e3).trans (Ex.new hl)) upd_same (pr_app (hi.up (((e.trans e2).trans e3).trans (Ex.new hl))) (i3.up (Ex.new hl)))⟩
/-! ### comprehensions that give cells -/
def givenC (n : Nat) (f : Nat → Bool) (g : Nat → Cel) : List Cel := ((List.range n).filter f).map g
theorem givenC_yes {n : Nat} {f : Nat → Bool} {g : Nat → Cel} (h : f n = true) : givenC (n + 1) f g = givenC n f g ++ [g n] := by
  unfold givenC
  rw [List.range_succ, List.filter_append, List.map_append, List.filter_cons, if_pos h] <;> rfl
theorem givenC_no {n : Nat} {f : Nat → Bool} {g : Nat → Cel} (h : f n = false) : givenC (n + 1) f g = givenC n f g := by
  unfold givenC
  rw [List.range_succ, List.filter_append, List.map_append, List.filter_cons, if_neg (by rw [h]; decide)]
  show _ ++ [] = _
  rw [List.append_nil]
theorem givenC_len (n : Nat) (f : Nat → Bool) (g : Nat → Cel) : (givenC n f g).length ≤ n := by
  unfold givenC
  rw [List.length_map]
  have h := List.length_filter_le f (List.range n)
  rw [List.length_range] at h
  exact h
def Cv (K : PySem.W.Frag) (H : Hp) (f : Nat → Bool) (g : Nat → Cel) (Dl : Addr) (i : Nat) (H' : Hp) : Prop := H Dl = none ∧ Ex H H' ∧ ∃ xs, H' Dl = some (.lst xs) ∧ IsAll K H' xs (givenC i f g)
theorem cv_turn {f : Nat → Bool} {g : Nat → Cel} {Dl : Addr} {i : Nat} {σ2 : L2.St} (p : Cv K H f g Dl i H') (hi : i < 50000) (ht : EvT t σ2 H (f i)) (he : f i = true → EvC K te σ2 H (g i)) :
    t σ2 H' fun b H3 => if b = true then te σ2 H3 fun y H4 => ∃ acc, H4 Dl = some (.lst acc) ∧ acc.length < sizeLine ∧ Cv K H f g Dl (i + 1) (upd H4 Dl (.lst (acc ++ [y]))) else Cv K H f g Dl (i + 1) H3 := by
  obtain ⟨p1, p2, xs, p3, p4⟩ := p
  refine ht H' p2 _ fun H3 e3 => ?_
  cases hf : f i with
  | true =>
    show te σ2 H3 fun y H4 => ∃ acc, H4 Dl = some (.lst acc) ∧ acc.length < sizeLine ∧ Cv K H f g Dl (i + 1) (upd H4 Dl (.lst (acc ++ [y])))
    refine he hf H3 (p2.trans e3) _ fun y H4 e4 iy => ⟨xs, e4 Dl _ (e3 Dl _ p3), sz_lt (by have := givenC_len i f g; have := pr_len p4; omega), p1, Ex.mut ((p2.trans e3).trans e4) p1, _, upd_same, ?_⟩
    rw [givenC_yes hf]
    have h4 := e4 Dl _ (e3 Dl _ p3)
    exact pr_app ((p4.up (e3.trans e4)).ut (ExT.upd h4)) (.cons (iy.ut (ExT.upd h4)) .nil)
  | false =>
    show Cv K H f g Dl (i + 1) H3
    refine ⟨p1, p2.trans e3, xs, e3 Dl _ p3, ?_⟩
    rw [givenC_no hf]
    exact p4.up e3
theorem en_lcR1 {ta : TA} {j : Nat} {vs : List Nat} {n : Int} (f : Nat → Bool) (g : Nat → Cel) (h : EvA ta σ H [.int n]) (hn : 0 ≤ n ∧ n ≤ 40000) (hw : ∀ x, wipe ((wipe σ vs).set j (some x)) vs = wipe σ vs)
    (ht : ∀ (i : Nat) H1, Ex H H1 → (i : Int) < n → EvT t ((wipe σ vs).set j (some (.int (i : Int)))) H1 (f i)) (he : ∀ (i : Nat) H1, Ex H H1 → (i : Int) < n → f i = true → EvC K te ((wipe σ vs).set j (some (.int (i : Int)))) H1 (g i)) :
    EvN K (tLc (iRng1 ta) (gName j) t te vs) σ H (givenC n.toNat f g) := fun H0 e Q q => h H0 e _ fun H1 e1 => ⟨n, rfl, by omega, by omega, fun Dl hD =>
  lc_range (lo := 0) (n := n.toNat) (Cv K H1 f g Dl) ⟨hD, Ex.new hD, [], upd_same, .nil⟩ (fun i H' hi p => by
    have e0 : (0 : Int) + (i : Int) = (i : Int) := Int.zero_add _
    show wipe ((wipe σ vs).set j (some (.int ((0 : Int) + (i : Int))))) vs = wipe σ vs ∧ t ((wipe σ vs).set j (some (.int ((0 : Int) + (i : Int))))) H' fun b H3 => if b = true then te ((wipe σ vs).set j (some (.int ((0 : Int) + (i : Int))))) H3 fun y H4 => ∃ acc, H4 Dl = some (.lst acc) ∧ acc.length < sizeLine ∧ Cv K H1 f g Dl (i + 1) (upd H4 Dl (.lst (acc ++ [y]))) else Cv K H1 f g Dl (i + 1) H3
    rw [e0]
    exact ⟨hw _, cv_turn p (by omega) (ht i H1 (e.trans e1) (by omega)) (fun hf => he i H1 (e.trans e1) (by omega) hf)⟩) (fun H' p => by
      obtain ⟨p1, p2, xs, p3, p4⟩ := p
      exact q Dl xs H' (fresh_back e1 p1) (e1.trans p2) p3 p4)⟩
/-- over a list of cells that stands; the target one name -/
theorem en_lcL {a : Addr} {xs : List V} {cs : List Cel} {j : Nat} {vs : List Nat} (f : Nat → Bool) (g : Nat → Cel) (h : Ev tl σ H (.ref a)) (hx : SqL K H a xs) (hc : IsAll K H xs cs) (hz : cs.length ≤ 40000) (hw : ∀ x, wipe ((wipe σ vs).set j (some x)) vs = wipe σ vs)
    (ht : ∀ (i : Nat) (x : V) (c : Cel) H1, Ex H H1 → cs[i]? = some c → Is K H1 x c → EvT t ((wipe σ vs).set j (some x)) H1 (f i)) (he : ∀ (i : Nat) (x : V) (c : Cel) H1, Ex H H1 → cs[i]? = some c → Is K H1 x c → f i = true → EvC K te ((wipe σ vs).set j (some x)) H1 (g i)) :
    EvN K (tLc (iList K tl) (gName j) t te vs) σ H (givenC cs.length f g) := fun H0 e Q q => h H0 e _ fun H1 e1 => ⟨a, rfl, ⟨xs, ex_l (e.trans e1) hx⟩, fun Dl hD =>
  lc_list (xs := xs) (Cv K H1 f g Dl) ⟨hD, Ex.new hD, [], upd_same, .nil⟩ (fun i H' _ p => ex_l ((e.trans e1).trans p.2.1) hx) (fun i x H' hi p => by
    obtain ⟨c, hci, hic⟩ := pr_get hc hi
    exact ⟨hw x, cv_turn p (by have := (List.getElem?_eq_some_iff.mp hci).1; omega) (ht i x c H1 (e.trans e1) hci (hic.up (e.trans e1))) (fun hf => he i x c H1 (e.trans e1) hci (hic.up (e.trans e1)) hf)⟩)
    (fun H' p => by
      obtain ⟨p1, p2, ys, p3, p4⟩ := p
      rw [pr_len hc] at p4
      exact q Dl ys H' (fresh_back e1 p1) (e1.trans p2) p3 p4)⟩
/-- over a new list of cells -/
theorem en_lcN {cs : List Cel} {j : Nat} {vs : List Nat} (f : Nat → Bool) (g : Nat → Cel) (h : EvN K tl σ H cs) (hz : cs.length ≤ 40000) (hw : ∀ x, wipe ((wipe σ vs).set j (some x)) vs = wipe σ vs)
    (ht : ∀ (i : Nat) (x : V) (c : Cel) H1, Ex H H1 → cs[i]? = some c → Is K H1 x c → EvT t ((wipe σ vs).set j (some x)) H1 (f i)) (he : ∀ (i : Nat) (x : V) (c : Cel) H1, Ex H H1 → cs[i]? = some c → Is K H1 x c → f i = true → EvC K te ((wipe σ vs).set j (some x)) H1 (g i)) :
    EvN K (tLc (iList K tl) (gName j) t te vs) σ H (givenC cs.length f g) := fun H0 e Q q => h H0 e _ fun a xs H1 ha e1 hx hc => ⟨a, rfl, ⟨xs, sq_of hx⟩, fun Dl hD =>
  lc_list (xs := xs) (Cv K H1 f g Dl) ⟨hD, Ex.new hD, [], upd_same, .nil⟩ (fun i H' _ p => sq_of (p.2.1 a _ hx)) (fun i x H' hi p => by
    obtain ⟨c, hci, hic⟩ := pr_get hc hi
    exact ⟨hw x, cv_turn p (by have := (List.getElem?_eq_some_iff.mp hci).1; omega) (ht i x c H1 (e.trans e1) hci hic) (fun hf => he i x c H1 (e.trans e1) hci hic hf)⟩)
    (fun H' p => by
      obtain ⟨p1, p2, ys, p3, p4⟩ := p
      rw [pr_len hc] at p4
      exact q Dl ys H' (fresh_back e1 p1) (e1.trans p2) p3 p4)⟩
/-- which are kept, by the cells themselves -/
theorem givenC_filter (cs : List Cel) (F : Cel → Bool) (d : Cel) : givenC cs.length (fun i => F (cs.getD i d)) (fun i => cs.getD i d) = cs.filter F := by
  unfold givenC
  have e : cs = (List.range cs.length).map fun i => cs.getD i d := by
    apply List.ext_getElem
    · simp
    · intro i h1 h2
      simp [List.getD_eq_getElem?_getD, List.getElem?_eq_getElem h1]
  conv => rhs; rw [e]
  rw [List.filter_map]
  rfl
theorem ev_lenN' {cs : List Cel} (ha : EvN K ta σ H cs) : Ev (tCB (rLenS K) (tCons ta tNil)) σ H (.int (cs.length : Nat)) := fun H1 e Q q =>
  ha H1 e _ fun p xs H2 _ e2 h2 i2 => ⟨p, xs, rfl, Or.inl (sq_of h2), by rw [pr_len i2]; exact q H2 e2⟩
/-- item of a list of cells that stands, of a new one -/
theorem ec_ixN {cs : List Cel} {i : Nat} (h : EvN K ta σ H cs) (hb : ∀ H1, Ex H H1 → Ev tb σ H1 (.int (i : Nat))) (hi : cs[i]? = some c) : EvC K (tOp (rIxL K) ta tb) σ H c := fun H1 e Q q =>
  h H1 e _ fun p xs H2 _ e2 h2 i2 => by
    obtain ⟨x, hx, ix⟩ := pr_get' i2 hi
    exact hb H2 (e.trans e2) H2 (Ex.refl H2) _ fun H3 e3 => ⟨p, xs, (i : Nat), x, rfl, rfl, sq_of (e3 _ _ h2), atI_nat hx, q x H3 (e2.trans e3) (ix.up e3)⟩
theorem ec_ixL {a : Addr} {xs : List V} {cs : List Cel} {i : Nat} (ha : Ev ta σ H (.ref a)) (hs : SqL K H a xs) (hc : IsAll K H xs cs) (hb : Ev tb σ H (.int (i : Nat))) (hi : cs[i]? = some c) : EvC K (tOp (rIxL K) ta tb) σ H c := fun H1 e Q q =>
  ha H1 e _ fun H2 e2 => hb H2 (e.trans e2) _ fun H3 e3 => by
    obtain ⟨x, hx, ix⟩ := pr_get' hc hi
    exact ⟨a, xs, (i : Nat), x, rfl, rfl, ex_l ((e.trans e2).trans e3) hs, atI_nat hx, q x H3 (e2.trans e3) (ix.up ((e.trans e2).trans e3))⟩
/-! statements -/
variable {D : Ends} {tz : TS}
theorem q_asgC {i : Nat} (h : EvC K te σ H c) (k : ∀ v H1, Ex H H1 → Is K H1 v c → tz D (σ.set i (some v)) H1) : tSeq (tAsg te (gName i)) tz D σ H := h H (Ex.refl H) _ k
theorem q_asgN {i : Nat} {cs : List Cel} (h : EvN K te σ H cs) (k : ∀ p xs H1, H p = none → Ex H H1 → H1 p = some (.lst xs) → IsAll K H1 xs cs → tz D (σ.set i (some (.ref p))) H1) : tSeq (tAsg te (gName i)) tz D σ H := h H (Ex.refl H) _ k
theorem s_asgC {i : Nat} (h : EvC K te σ H c) (k : ∀ v H1, Ex H H1 → Is K H1 v c → D.nx (σ.set i (some v)) H1) : tAsg te (gName i) D σ H := h H (Ex.refl H) _ k
theorem s_asgN {i : Nat} {cs : List Cel} (h : EvN K te σ H cs) (k : ∀ p xs H1, H p = none → Ex H H1 → H1 p = some (.lst xs) → IsAll K H1 xs cs → D.nx (σ.set i (some (.ref p))) H1) : tAsg te (gName i) D σ H := h H (Ex.refl H) _ k
theorem s_retC (h : EvC K te σ H c) (k : ∀ v H1, Ex H H1 → Is K H1 v c → D.rt v H1) : tRet te D σ H := h H (Ex.refl H) _ k
theorem s_retN {cs : List Cel} (h : EvN K te σ H cs) (k : ∀ p xs H1, H p = none → Ex H H1 → H1 p = some (.lst xs) → IsAll K H1 xs cs → D.rt (.ref p) H1) : tRet te D σ H := h H (Ex.refl H) _ k
/-! ### alike cells -/
theorem al_tup {xs : List V} {v u : V} {n : Nat} (hv : Is K H v (.t xs)) (hu : Is K H u (.t xs)) (hx : xs.all sc1 = true) (hl : xs.length ≤ 40000) : Al K H (n + 1) v u := by
  obtain ⟨a, rfl, ha⟩ := hv
  obtain ⟨b, rfl, hb⟩ := hu
  refine .inr ⟨a, b, xs, xs, rfl, rfl, .inr ⟨ha, hb⟩, rfl, hl, fun i x y h1 h2 => ?_⟩
  rw [h1] at h2
  cases h2
  exact al_sc (List.all_eq_true.mp hx x (List.mem_of_getElem? h1))
/-- an argument that is a cell -/
theorem ev_callC1 {sp : Sp} {E : XK} (ha : EvC K ta σ H c) (hs : ∀ v H1, Ex H H1 → Is K H1 v c → SpV sp [v] H1 z) : Ev (tCall sp [] E (tCons ta tNil)) σ H z := fun H1 e Q q =>
  ha H1 e _ fun v H2 e2 i => hs v H2 (e.trans e2) i H2 (Ex.refl H2) Q (fun H3 e3 => q H3 (e2.trans e3)) E
theorem ev_callC2 {sp : Sp} {E : XK} {c' : Cel} (ha : EvC K ta σ H c) (hb : ∀ H1, Ex H H1 → EvC K tb σ H1 c') (hs : ∀ v w H1, Ex H H1 → Is K H1 v c → Is K H1 w c' → SpV sp [v, w] H1 z) : Ev (tCall sp [] E (tCons ta (tCons tb tNil))) σ H z := fun H1 e Q q =>
  ha H1 e _ fun v H2 e2 i => hb H2 (e.trans e2) H2 (Ex.refl H2) _ fun w H3 e3 j => hs v w H3 ((e.trans e2).trans e3) (i.up e3) j H3 (Ex.refl H3) Q (fun H4 e4 => q H4 ((e2.trans e3).trans e4)) E
/-! ### cells as data -/
def datV : V → PyData
  | .non => .none
  | .bl b => .bool b
  | .int i => .int i
  | .str x => .str x
  | _ => .none
def okV : V → Bool
  | .non => true
  | .bl _ => true
  | .int _ => true
  | .str x => PyData.strOk x
  | _ => false
def datC : Cel → PyData
  | .v x => datV x
  | .t xs => .tuple (xs.map datV)
def okC : Cel → Bool
  | .v x => okV x
  | .t xs => xs.all okV
theorem dp_v (h : okV x = true) : Dp K H x (datV x) := by
  cases x <;> first | exact .non | exact .bl _ | exact .int _ | exact .str _ | cases h
theorem dp_vs : ∀ {xs : List V}, xs.all okV = true → DpAll K H xs (xs.map datV)
  | [], _ => .nil
  | x :: xs, h => by
    rw [List.all_cons, Bool.and_eq_true] at h
    exact .cons (dp_v h.1) (dp_vs h.2)
theorem dp_c (h : Is K H v c) (ok : okC c = true) : Dp K H v (datC c) := by
  cases c with
  | v x =>
    have e : v = x := h
    rw [e]
    exact dp_v ok
  | t xs =>
    obtain ⟨a, rfl, hs⟩ := h
    exact .tup hs (dp_vs ok)
theorem dp_cs : ∀ {xs : List V} {cs : List Cel}, IsAll K H xs cs → cs.all okC = true → DpAll K H xs (cs.map datC)
  | _, [], h, _ => by cases h; exact .nil
  | _, c :: cs, h, ok => by
    cases h with
    | cons r t =>
      rw [List.all_cons, Bool.and_eq_true] at ok
      exact .cons (dp_c r ok.1) (dp_cs t ok.2)
theorem lay_v (h : okV x = true) : (datV x).canLay0 = true ∧ (datV x).depth = 0 := by
  cases x <;> first | exact ⟨rfl, rfl⟩ | exact ⟨h, rfl⟩ | cases h
theorem lay_vs : ∀ {xs : List V}, xs.all okV = true → PyData.canLayAll0 (xs.map datV) = true ∧ PyData.depthAll (xs.map datV) = 0
  | [], _ => ⟨rfl, rfl⟩
  | x :: xs, h => by
    rw [List.all_cons, Bool.and_eq_true] at h
    obtain ⟨a1, a2⟩ := lay_v h.1
    obtain ⟨b1, b2⟩ := lay_vs h.2
    rw [List.map_cons]
    constructor
    · show (PyData.canLay0 (datV x) && PyData.canLayAll0 (xs.map datV)) = true
      rw [a1, b1]
      rfl
    · show max (PyData.depth (datV x)) (PyData.depthAll (xs.map datV)) = 0
      rw [a2, b2]
      rfl
theorem lay_c (h : okC c = true) : (datC c).canLay0 = true ∧ (datC c).depth ≤ 1 := by
  cases c with
  | v x =>
    obtain ⟨a1, a2⟩ := lay_v h
    exact ⟨a1, by show (datV x).depth ≤ 1; rw [a2]; omega⟩
  | t xs =>
    obtain ⟨a1, a2⟩ := lay_vs h
    exact ⟨a1, by show PyData.depthAll (xs.map datV) + 1 ≤ 1; rw [a2]; omega⟩
theorem lay_cs : ∀ {cs : List Cel}, cs.all okC = true → PyData.canLayAll0 (cs.map datC) = true ∧ PyData.depthAll (cs.map datC) ≤ 1
  | [], _ => ⟨rfl, by show 0 ≤ 1; omega⟩
  | c :: cs, h => by
    rw [List.all_cons, Bool.and_eq_true] at h
    obtain ⟨a1, a2⟩ := lay_c h.1
    obtain ⟨b1, b2⟩ := lay_cs h.2
    rw [List.map_cons]
    constructor
    · show (PyData.canLay0 (datC c) && PyData.canLayAll0 (cs.map datC)) = true
      rw [a1, b1]
      rfl
    · show max (PyData.depth (datC c)) (PyData.depthAll (cs.map datC)) ≤ 1
      omega
theorem shaped_cs {cs : List Cel} (h : cs.all okC = true) : SeqAt.shaped (.list (cs.map datC)) = true := by
  obtain ⟨b1, b2⟩ := lay_cs h
  unfold SeqAt.shaped
  rw [Bool.and_eq_true]
  refine ⟨b1, decide_eq_true ?_⟩
  show PyData.depthAll (cs.map datC) + 1 ≤ 64
  omega
theorem eqv_nil (cs : List Cel) : PyData.eqv (.list (cs.map datC)) (.list []) = cs.isEmpty := by
  cases cs with
  | nil => rfl
  | cons c cs => rfl
theorem ev_nilN {cs : List Cel} (ha : EvN K ta σ H cs) (ok : cs.all okC = true) : Ev (tOp (rEqD K) ta (tLst tNil)) σ H (.bl cs.isEmpty) := fun H1 e Q q =>
  ha H1 e _ fun p xs H2 _ e2 h2 i2 => ⟨Nat.zero_le _, fun l hl => ⟨_, _, .lst (sq_of (by rw [upd_ne (ne_of_none h2 hl)]; exact h2)) (dp_cs (i2.up (Ex.new hl)) ok), .lst (sq_of upd_same) .nil, shaped_cs ok, rfl, by
    rw [eqv_nil]
    exact q _ (e2.trans (Ex.new hl))⟩⟩
theorem ev_nnilN {cs : List Cel} (ha : EvN K ta σ H cs) (ok : cs.all okC = true) : Ev (tOp (rNeD K) ta (tLst tNil)) σ H (.bl (!cs.isEmpty)) := fun H1 e Q q =>
  ha H1 e _ fun p xs H2 _ e2 h2 i2 => ⟨Nat.zero_le _, fun l hl => ⟨_, _, .lst (sq_of (by rw [upd_ne (ne_of_none h2 hl)]; exact h2)) (dp_cs (i2.up (Ex.new hl)) ok), .lst (sq_of upd_same) .nil, shaped_cs ok, rfl, by
    rw [eqv_nil]
    exact q _ (e2.trans (Ex.new hl))⟩⟩
theorem ev_nilL {a : Addr} {xs : List V} {cs : List Cel} (ha : Ev ta σ H (.ref a)) (hs : SqL K H a xs) (hc : IsAll K H xs cs) (ok : cs.all okC = true) : Ev (tOp (rEqD K) ta (tLst tNil)) σ H (.bl cs.isEmpty) := fun H1 e Q q =>
  ha H1 e _ fun H2 e2 => ⟨Nat.zero_le _, fun l hl => ⟨_, _, .lst (ex_l ((e.trans e2).trans (Ex.new hl)) hs) (dp_cs (hc.up ((e.trans e2).trans (Ex.new hl))) ok), .lst (sq_of upd_same) .nil, shaped_cs ok, rfl, by
    rw [eqv_nil]
    exact q _ (e2.trans (Ex.new hl))⟩⟩
theorem ev_nnilL {a : Addr} {xs : List V} {cs : List Cel} (ha : Ev ta σ H (.ref a)) (hs : SqL K H a xs) (hc : IsAll K H xs cs) (ok : cs.all okC = true) : Ev (tOp (rNeD K) ta (tLst tNil)) σ H (.bl (!cs.isEmpty)) := fun H1 e Q q =>
  ha H1 e _ fun H2 e2 => ⟨Nat.zero_le _, fun l hl => ⟨_, _, .lst (ex_l ((e.trans e2).trans (Ex.new hl)) hs) (dp_cs (hc.up ((e.trans e2).trans (Ex.new hl))) ok), .lst (sq_of upd_same) .nil, shaped_cs ok, rfl, by
    rw [eqv_nil]
    exact q _ (e2.trans (Ex.new hl))⟩⟩
theorem txt_ok (p : List Bool) : PyData.strOk (txt p) = true := by
  show ((p.map sg).toArray).all (· < 0x110000) = true
  rw [List.all_toArray, List.all_eq_true]
  intro c hc
  obtain ⟨b, _, rfl⟩ := List.mem_map.mp hc
  cases b <;> decide
/-- max of a new list of whole numbers -/
theorem ev_maxN {ns : List Int} {m : Int} (ha : EvL ta σ H (ns.map V.int)) (hm : m ∈ ns) (hle : ∀ y ∈ ns, y ≤ m) : Ev (tCB (rMax K) (tCons ta tNil)) σ H (.int m) :=
  ev_cbL ha fun p H1 h1 e1 H2 e2 Q q => ⟨p, ns, rfl, sq_of (e2 _ _ h1), List.length_pos_of_mem hm, fun m' h1' h2' => by
    have : m' = m := Int.le_antisymm (hle _ h1') (h2' _ hm)
    rw [this]
    exact q H2 (Ex.refl H2)⟩
end
def cRow (r : Row) : Cel := .t [oV r.1, .int (r.2.1 : Nat), .int (r.2.2 : Nat)]
theorem cRow_ok (r : Row) : okC (cRow r) = true := by
  obtain ⟨o, a, b⟩ := r
  cases o <;> rfl
def spWorst (K : PySem.W.Frag) : Sp := fun vs H Q _ => ∃ (p q : List Bool) (l : Bool), vs = [.str (txt p), .str (txt q), .bl l] ∧ (0 < p.length ∧ p.length ≤ 100) ∧ (0 < q.length ∧ q.length ≤ 100) ∧ RetC K (cRow (worst p q l)) H Q
end Bm
namespace Bm
open PySem PySem.Spec PyProof.Rows L2 Evl
/-! ### held against each other -/
abbrev R3 := Nat × Nat × Option Nat
def r0 : R3 := (0, 1, none)
def bett (a b : R3) : Bool := decide (a.1 * b.2.1 ≤ b.1 * a.2.1) && (decide (a.2.2.getD 0 ≤ b.2.2.getD 0) && (decide (a.1 * b.2.1 < b.1 * a.2.1) || decide (a.2.2.getD 0 < b.2.2.getD 0)))
def sure (rs : List R3) : List Nat := (List.range rs.length).filter fun k => (rs.getD k r0).2.2.isSome
def frontL (rs : List R3) : List Nat := (sure rs).filter fun k => ((sure rs).filter fun j => bett (rs.getD j r0) (rs.getD k r0)).isEmpty
theorem bett_iff (a b : R3) : bett a b = true ↔ a.1 * b.2.1 ≤ b.1 * a.2.1 ∧ a.2.2.getD 0 ≤ b.2.2.getD 0 ∧ (a.1 * b.2.1 < b.1 * a.2.1 ∨ a.2.2.getD 0 < b.2.2.getD 0) := by
  unfold bett
  simp only [Bool.and_eq_true, Bool.or_eq_true, decide_eq_true_eq]
theorem bett_irr (a : R3) : bett a a = false := by
  cases h : bett a a with
  | false => rfl
  | true =>
    obtain ⟨_, _, h3⟩ := (bett_iff a a).mp h
    omega
theorem bett_trans {a b c : R3} (ha : 0 < a.2.1) (hb : 0 < b.2.1) (hc : 0 < c.2.1) (h1 : bett a b = true) (h2 : bett b c = true) : bett a c = true := by
  obtain ⟨a1, n, w1⟩ := a
  obtain ⟨a2, m, w2⟩ := b
  obtain ⟨a3, k, w3⟩ := c
  obtain ⟨p1, p2, p3⟩ := (bett_iff _ _).mp h1
  obtain ⟨q1, q2, q3⟩ := (bett_iff _ _).mp h2
  dsimp only at *
  have e1 : a1 * m * k ≤ a2 * n * k := Nat.mul_le_mul_right k p1
  have e2 : a2 * k * n ≤ a3 * m * n := Nat.mul_le_mul_right n q1
  have c1 : a1 * m * k = (a1 * k) * m := by rw [Nat.mul_assoc, Nat.mul_comm m k, ← Nat.mul_assoc]
  have c2 : a2 * n * k = a2 * k * n := by rw [Nat.mul_assoc, Nat.mul_comm n k, ← Nat.mul_assoc]
  have c3 : a3 * m * n = (a3 * n) * m := by rw [Nat.mul_assoc, Nat.mul_comm m n, ← Nat.mul_assoc]
  have e3 : (a1 * k) * m ≤ (a3 * n) * m := by omega
  refine (bett_iff _ _).mpr ⟨Nat.le_of_mul_le_mul_right e3 hb, (by show w1.getD 0 ≤ w3.getD 0; omega), ?_⟩
  dsimp only
  rcases p3 with p3 | p3
  · left
    have : a1 * m * k < a2 * n * k := Nat.mul_lt_mul_of_pos_right p3 hc
    have e4 : (a1 * k) * m < (a3 * n) * m := by omega
    exact Nat.lt_of_mul_lt_mul_right e4
  · right
    omega
theorem mem_sure {rs : List R3} {k : Nat} : k ∈ sure rs ↔ k < rs.length ∧ (rs.getD k r0).2.2.isSome = true := by
  unfold sure
  rw [List.mem_filter, List.mem_range]
theorem filter_lt {α : Type} {l : List α} {f g : α → Bool} (h : ∀ x ∈ l, f x = true → g x = true) {x : α} (hx : x ∈ l) (h1 : f x = false) (h2 : g x = true) : (l.filter f).length < (l.filter g).length := by
  induction l with
  | nil => cases hx
  | cons a l ih =>
    have hle : (l.filter f).length ≤ (l.filter g).length := by
      clear ih hx
      induction l with
      | nil => exact Nat.le_refl _
      | cons b l ih2 =>
        have := ih2 (fun x hx => h x (by rcases List.mem_cons.mp hx with rfl | hx <;> simp [*]))
        have hb := h b (by simp)
        rw [List.filter_cons, List.filter_cons]
        by_cases c : f b = true
        · rw [if_pos c, if_pos (hb c)]
          simp
          exact this
        · rw [if_neg c]
          split
          · simp
            omega
          · exact this
    rw [List.filter_cons, List.filter_cons]
    rcases List.mem_cons.mp hx with rfl | hx
    · rw [if_neg (by rw [h1]; decide), if_pos h2]
      simp
      omega
    · have := ih (fun x hx => h x (List.mem_cons_of_mem _ hx)) hx
      by_cases c : f a = true
      · rw [if_pos c, if_pos (h a (by simp) c)]
        simp
        exact this
      · rw [if_neg c]
        split
        · simp
          omega
        · exact this
/-- of each other sure one a told one is better -/
theorem front_dom {rs : List R3} (hpos : ∀ k, k < rs.length → 0 < (rs.getD k r0).2.1) : ∀ (n k : Nat), ((sure rs).filter fun j => bett (rs.getD j r0) (rs.getD k r0)).length ≤ n → k ∈ sure rs → k ∉ frontL rs → ∃ j ∈ frontL rs, bett (rs.getD j r0) (rs.getD k r0) = true
  | 0, k, hn, hk, hf => by
    refine absurd (List.mem_filter.mpr ⟨hk, ?_⟩) hf
    have : ((sure rs).filter fun j => bett (rs.getD j r0) (rs.getD k r0)) = [] := List.eq_nil_of_length_eq_zero (by omega)
    rw [this]
    rfl
  | n + 1, k, hn, hk, hf => by
    cases e : (sure rs).filter fun j => bett (rs.getD j r0) (rs.getD k r0) with
    | nil =>
      refine absurd (List.mem_filter.mpr ⟨hk, ?_⟩) hf
      rw [e]
      rfl
    | cons j js =>
      have hj : j ∈ (sure rs).filter fun j => bett (rs.getD j r0) (rs.getD k r0) := by rw [e]; simp
      obtain ⟨hj1, hj2⟩ := List.mem_filter.mp hj
      by_cases hjf : j ∈ frontL rs
      · exact ⟨j, hjf, hj2⟩
      · have pj := hpos j (mem_sure.mp hj1).1
        have pk := hpos k (mem_sure.mp hk).1
        have hlt := filter_lt (l := sure rs) (f := fun i => bett (rs.getD i r0) (rs.getD j r0)) (g := fun i => bett (rs.getD i r0) (rs.getD k r0)) (fun i hi h => bett_trans (hpos i (mem_sure.mp hi).1) pj pk h hj2) hj1 (bett_irr _) hj2
        obtain ⟨i, hi, hib⟩ := front_dom hpos n j (by omega) hj1 hjf
        exact ⟨i, hi, bett_trans (hpos i (mem_sure.mp (List.mem_filter.mp hi).1).1) pj pk hib hj2⟩
def cR (r : R3) : Cel := .t [.int (r.1 : Nat), .int (r.2.1 : Nat), oV r.2.2]
def rowOf (p : List Bool) : R3 := ((onesV p).length, p.length, (worst p p false).1)
def natsV (ks : List Nat) : List V := ks.map fun k => V.int (k : Nat)
def spBetter (K : PySem.W.Frag) : Sp := fun vs H Q _ => ∃ (v u : V) (r s : R3), vs = [v, u] ∧ Is K H v (cR r) ∧ Is K H u (cR s) ∧ (r.2.2.isSome = true ∧ s.2.2.isSome = true) ∧ (r.1 ≤ 1000 ∧ s.1 ≤ 1000) ∧ RetV (.bl (bett r s)) H Q
theorem oV_get {o : Option Nat} (h : o.isSome = true) : oV o = .int (o.getD 0 : Nat) := by
  cases o with
  | none => cases h
  | some m => rfl
section
variable {K : PySem.W.Frag} {σ : L2.St} {H : Hp} {ta tb te tl : TE} {c : Cel} {D : Ends} {tz : TS}
theorem q_appC {l : Addr} {xs : List V} (hl : H l = some (.lst xs)) (ha : Ev ta σ H (.ref l)) (h : EvC K te σ H c) (hz : xs.length < 100000) (k : ∀ v H1, Ex H H1 → Is K H1 v c → tz D σ (upd H1 l (.lst (xs ++ [v])))) :
    tSeq (tDrop (tBM K "list" rAppend ta (tCons te tNil))) tz D σ H := ha H (Ex.refl H) _ fun H1 e1 =>
  ⟨Or.inl ⟨rfl, xs, sq_of (e1 l _ hl)⟩, h H1 e1 _ fun v H2 e2 i2 => ⟨l, xs, v, rfl, rfl, e2 l _ (e1 l _ hl), sz_lt hz, k v H2 (e1.trans e2) i2⟩⟩
theorem s_appC {l : Addr} {xs : List V} (hl : H l = some (.lst xs)) (ha : Ev ta σ H (.ref l)) (h : EvC K te σ H c) (hz : xs.length < 100000) (k : ∀ v H1, Ex H H1 → Is K H1 v c → D.nx σ (upd H1 l (.lst (xs ++ [v])))) :
    tDrop (tBM K "list" rAppend ta (tCons te tNil)) D σ H := ha H (Ex.refl H) _ fun H1 e1 =>
  ⟨Or.inl ⟨rfl, xs, sq_of (e1 l _ hl)⟩, h H1 e1 _ fun v H2 e2 i2 => ⟨l, xs, v, rfl, rfl, e2 l _ (e1 l _ hl), sz_lt hz, k v H2 (e1.trans e2) i2⟩⟩
/-- a new list, of cells, that may stand elsewhere too -/
theorem s_forEL {ta : TA} {a : Addr} {xs : List V} {g : TG} {tu : TS} (h : EvA ta σ H [.ref a]) (hx : SqL K H a xs) (Pv : Nat → L2.St → Hp → Prop) (h0 : ∀ H1, Ex H H1 → Pv 0 σ H1) (hG : ∀ i σ' H', i ≤ xs.length → Pv i σ' H' → SqL K H' a xs)
    (hs : ∀ i T x σ' H', xs[i]? = some x → Pv i σ' H' → H' T = none → g (.ref T) σ' (upd H' T (.tup [.int (i : Nat), x])) fun σ2 H2 => tu { D with nx := Pv (i + 1), ct := Pv (i + 1), bk := D.nx } σ2 H2)
    (hd : ∀ σ' H', Pv xs.length σ' H' → D.nx σ' H') : tFor (iEnum K ta) g tu D σ H :=
  h H (Ex.refl H) _ fun H1 e => ⟨a, xs, rfl, ex_l e hx, for_it (walk_enum (xs := xs)) Pv (h0 H1 e) hG (fun i v σ' H' H2 _ p y => by
    obtain ⟨T, x, z, rfl, hT, rfl, hx1, hx2⟩ := y
    cases hx1
    exact hs i T z σ' H' hx2 p hT) hd⟩
/-- list(xs) -/
theorem en_listL {a : Addr} {xs : List V} {cs : List Cel} (ha : Ev ta σ H (.ref a)) (hs : SqL K H a xs) (hi : IsAll K H xs cs) : EvN K (tCB (rListS K) (tCons ta tNil)) σ H cs := fun H1 e Q q =>
  ha H1 e _ fun H2 e2 => ⟨a, xs, rfl, Or.inl (ex_l (e.trans e2) hs), fun l hl => q l xs _ (fresh_back e2 hl) (e2.trans (Ex.new hl)) upd_same ((hi.up (e.trans e2)).up (Ex.new hl))⟩
/-- two lists of the same cells -/
theorem al_list {cs : List Cel} {a b : Addr} {xs ys : List V} {n : Nat} (ha : SqL K H a xs) (hx : IsAll K H xs cs) (hb : SqL K H b ys) (hy : IsAll K H ys cs) (hl : cs.length ≤ 40000) (hc : ∀ c ∈ cs, ∀ x y, Is K H x c → Is K H y c → Al K H n x y) : Al K H (n + 1) (.ref a) (.ref b) := by
  refine .inr ⟨a, b, xs, ys, rfl, rfl, .inl ⟨ha, hb⟩, by rw [pr_len hx, pr_len hy], by rw [pr_len hx]; exact hl, fun i x y h1 h2 => ?_⟩
  obtain ⟨c, c1, c2⟩ := pr_get hx h1
  obtain ⟨c', c3, c4⟩ := pr_get hy h2
  rw [c1] at c3
  cases c3
  exact hc c (List.mem_of_getElem? c1) x y c2 c4
theorem DD.weaken {Da : Addr} {G G' H : Hp} (d : DD Da G' H) (e : Ex G G') (hn : G Da = none) : DD Da G H := ⟨hn, e.trans d.ex, d.at_⟩
end
end Bm
namespace Bm
open PySem PySem.Spec PyProof.Rows L2 Evl
/-! ### typed data -/
theorem toD_inj {α : Type} [DecidableEq α] [PySem.W.Datum α] {a b : α} (h : PySem.W.Datum.toD a = PySem.W.Datum.toD b) : a = b := by
  have e := PySem.W.Datum.eqv a b
  rw [h, PySem.W.Datum.eqv b b, decide_eq_true rfl] at e
  exact of_decide_eq_true e.symm
def cSI (p : PySem.Str × Int) : Cel := .t [.str p.1, .int p.2]
def cIS (p : Int × PySem.Str) : Cel := .t [.int p.1, .str p.2]
section
variable {K : PySem.W.Frag} {H : Hp} {v : V}
theorem dp_SI {p : PySem.Str × Int} (h : Is K H v (cSI p)) : Dp K H v (PySem.W.Datum.toD p) := by
  obtain ⟨a, rfl, hs⟩ := h
  exact .tup hs (.cons (.str _) (.cons (.int _) .nil))
theorem dp_IS {p : Int × PySem.Str} (h : Is K H v (cIS p)) : Dp K H v (PySem.W.Datum.toD p) := by
  obtain ⟨a, rfl, hs⟩ := h
  exact .tup hs (.cons (.int _) (.cons (.str _) .nil))
theorem dpAll_of {α : Type} [DecidableEq α] [PySem.W.Datum α] {c : α → Cel} (hc : ∀ {v : V} {p : α}, Is K H v (c p) → Dp K H v (PySem.W.Datum.toD p)) : ∀ {xs : List V} {ps : List α}, IsAll K H xs (ps.map c) → DpAll K H xs (ps.map PySem.W.Datum.toD)
  | _, [], h => by cases h; exact .nil
  | _, p :: ps, h => by
    cases h with
    | cons r t => exact .cons (hc r) (dpAll_of hc t)
/-- min of a list of (text, number) -/
def rMinSI (K : PySem.W.Frag) : List V → Hp → VK → Prop := fun vs H Q => ∃ (a : Addr) (xs : List V) (x : PySem.Str × Int) (ys : List (PySem.Str × Int)), vs = [.ref a] ∧ SqL K H a xs ∧ IsAll K H xs ((x :: ys).map cSI) ∧ ∀ v, Is K H v (cSI (PySem.W.minOf x ys)) → Q v H
end
theorem cr_minD {X : Cx} {j : Nat} (hc : X.calm = true) (hr : Room j X.A) : CallR X (.builtin "min") (rMinSI X.K) := by
  intro pins s σ H vs us Q I r h
  obtain ⟨a, xs, x, ys, rfl, hs, hi, q⟩ := h
  obtain ⟨its, rv, hl, _⟩ := I.list hs
  rw [Vals.ref1 r]
  obtain ⟨as, ra⟩ := Dp.readsAll I _ xs its (dpAll_of (c := cSI) dp_SI hi) rv
  have hu : X.A.units + 1 + PySem.W.Datum.depth (PySem.Str × Int) < cLine := by
    have := hr.un
    show X.A.units + 1 + 1 < cLine
    omega
  refine PySem.W.min_list_datum (x := x) (xs := ys) (I.ok.hd hc) hl.isList ⟨as, by simpa using ra⟩ hu fun i v h' tk hv hh hk => ?_
  have hv' : its[i]? = some v := by simpa using hv
  have hix : i < xs.length := by
    rw [rv.length]
    exact (List.getElem?_eq_some_iff.mp hv').1
  obtain ⟨u, hu1, hu2⟩ := rv.get (List.getElem?_eq_getElem hix)
  rw [hv'] at hu1
  cases hu1
  obtain ⟨c, hc1, hc2⟩ := pr_get hi (List.getElem?_eq_getElem hix)
  rw [List.getElem?_map] at hc1
  cases e : (x :: ys)[i]? with
  | none => rw [e] at hc1; cases hc1
  | some z =>
    rw [e] at hc1
    cases hc1
    obtain ⟨as1, r1⟩ := Dp.reads I _ xs[i] v (dp_SI hc2) hu2
    obtain ⟨as2, r2⟩ := hh
    have ez := toD_inj (reads_det (h := s.heap) (h' := h') (fun b o e _ => hk b o e) r1 r2).1
    rw [← ez] at hc2
    exact ⟨xs[i], H, I.kept (t' := tk) hk, hu2, q _ hc2⟩
section
variable {K : PySem.W.Frag} {σ : L2.St} {H : Hp} {ta tb : TE}
theorem ec_minN {x : PySem.Str × Int} {ys : List (PySem.Str × Int)} (ha : EvN K ta σ H ((x :: ys).map cSI)) : EvC K (tCB (rMinSI K) (tCons ta tNil)) σ H (cSI (PySem.W.minOf x ys)) := fun H1 e Q q =>
  ha H1 e _ fun p xs H2 hp e2 h2 i2 => ⟨p, xs, x, ys, rfl, sq_of h2, i2, fun v iv => q v H2 e2 iv⟩
end
/-! ### sorted -/
section
variable {α : Type} [DecidableEq α] [PySem.W.DatumOrd α]
def leG (a b : α) : Bool := !PySem.W.DatumOrd.lt b a
def rSortG (c : α → Cel) (K : PySem.W.Frag) : List V → Hp → VK → Prop := fun vs H Q => ∃ (a : Addr) (xs : List V) (ps : List α), vs = [.ref a] ∧ SqL K H a xs ∧ IsAll K H xs (ps.map c) ∧ ps.length ≤ 100000 ∧
  ∀ (p : Addr) (ys : List V), H p = none → IsAll K H ys ((ps.mergeSort leG).map c) → Q (.ref p) (upd H p (.lst ys))
theorem vals_each {c : α → Cel} {K : PySem.W.Frag} {H : Hp} : ∀ {out : List Value} {ps : List α}, PySem.W.EachIs (fun (u : Value) (p : α) => ∃ x, RelV x u ∧ Is K H x (c p)) out ps → ∃ ys, Vals ys out ∧ IsAll K H ys (ps.map c)
  | _, _, .nil => ⟨[], .nil, .nil⟩
  | _, _, .cons ⟨x, h1, h2⟩ t => by
    obtain ⟨ys, a, b⟩ := vals_each t
    exact ⟨x :: ys, .cons h1 a, .cons h2 b⟩
theorem each_of {c : α → Cel} {K : PySem.W.Frag} {H : Hp} : ∀ {xs : List V} {us : List Value} {ps : List α}, Vals xs us → IsAll K H xs (ps.map c) → PySem.W.EachIs (fun (u : Value) (p : α) => ∃ x, RelV x u ∧ Is K H x (c p)) us ps
  | _, _, [], .nil, _ => .nil
  | _, _, _ :: _, .nil, h => by cases h
  | _, _, [], .cons _ _, h => by cases h
  | _, _, p :: ps, .cons r t, h => by
    cases h with
    | cons a b => exact .cons ⟨_, r, a⟩ (each_of t b)
theorem cr_sortedG {X : Cx} {j : Nat} (c : α → Cel) (hcd : ∀ {K : PySem.W.Frag} {H : Hp} {v : V} {p : α}, Is K H v (c p) → Dp K H v (PySem.W.Datum.toD p)) (hk : ∀ ps : List α, PySem.W.Sortable (ps.map PySem.W.Datum.toD)) (hd : PySem.W.Datum.depth α ≤ 1) (hr : Room j X.A) : CallR X (.builtin "sorted") (rSortG c X.K) := by
  intro pins s σ H vs us Q I r h
  obtain ⟨a, xs, ps, rfl, hs, hi, hz, q⟩ := h
  obtain ⟨its, rv, hl, _⟩ := I.list hs
  rw [Vals.ref1 r]
  have e1 := each_of (c := c) rv hi
  have e2 : PySem.W.EachIs (fun v b => ∃ as, Reads s.heap v (PySem.W.Datum.toD b) as) its ps := e1.mono fun u p ⟨x, h1, h2⟩ => Dp.reads I _ x u (hcd h2) h1
  have hle : PySem.W.dataLe false (PySem.W.Datum.toD (α := α)) = leG := by
    rw [PySem.W.dataLe_eq]
    funext a b
    show (!PySem.W.dataLt (PySem.W.Datum.toD b) (PySem.W.Datum.toD a)) = leG a b
    unfold leG
    rw [PySem.W.DatumOrd.lt_eq]
  refine PySem.W.sorted_data (enc := PySem.W.Datum.toD) hl.isList e1 e2 (PySem.W.AllAlike.of fun a b => PySem.W.DatumOrd.alike a b) (hk ps) (sz_of hz) (fun b _ => ?_) fun out ho eo => ?_
  · have := hr.un
    have h1 : (PySem.W.Datum.toD b).depth ≤ _ := PySem.W.Datum.depth_le b
    omega
  · rw [hle] at eo
    obtain ⟨ys, hy1, hy2⟩ := vals_each (K := X.K) (H := H) eo
    obtain ⟨ep, he'⟩ := PyProof.Rows.sortedAll_at s.heap its out.toArray
    have hlen : ys.length ≤ sizeLine := by
      rw [hy1.length, ho]
      exact sz_of hz
    exact ⟨.ref _, upd H (s.heap.objs.size + 1) (.lst ys), I.laid (t' := s.toks) (fun _ _ => PyProof.Rows.sortedAll_old) (Nat.le_succ _) ⟨hlen, out, ep, hy1, he'⟩, rfl, q _ ys (I.hok.fresh (Nat.le_succ _)) hy2⟩
theorem en_sortN {c : α → Cel} {K : PySem.W.Frag} {σ : L2.St} {H : Hp} {ta : TE} {ps : List α} (ha : EvN K ta σ H (ps.map c)) (hz : ps.length ≤ 100000) : EvN K (tCB (rSortG c K) (tCons ta tNil)) σ H ((ps.mergeSort leG).map c) := fun H1 e Q q =>
  ha H1 e _ fun p xs H2 hp e2 h2 i2 => ⟨p, xs, ps, rfl, sq_of h2, i2, hz, fun l ys hl iy => q l ys _ (fresh_back e2 hl) (e2.trans (Ex.new hl)) upd_same (iy.up (Ex.new hl))⟩
theorem en_sortL {c : α → Cel} {K : PySem.W.Frag} {σ : L2.St} {H : Hp} {ta : TE} {ps : List α} {a : Addr} {xs : List V} (ha : Ev ta σ H (.ref a)) (hs : SqL K H a xs) (hi : IsAll K H xs (ps.map c)) (hz : ps.length ≤ 100000) : EvN K (tCB (rSortG c K) (tCons ta tNil)) σ H ((ps.mergeSort leG).map c) := fun H1 e Q q =>
  ha H1 e _ fun H2 e2 => ⟨a, xs, ps, rfl, ex_l (e.trans e2) hs, hi.up (e.trans e2), hz, fun l ys hl iy => q l ys _ (fresh_back e2 hl) (e2.trans (Ex.new hl)) upd_same (iy.up (Ex.new hl))⟩
end
def cS (z : PySem.Str) : Cel := .v (.str z)
theorem cr_sortedD {X : Cx} {j : Nat} (hr : Room j X.A) : CallR X (.builtin "sorted") (rSortG cIS X.K) := cr_sortedG cIS dp_IS (fun _ => PySem.W.Sortable.tuples fun _ => ⟨_, _, rfl⟩) (Nat.le_refl _) hr
theorem cr_sortedT {X : Cx} {j : Nat} (hr : Room j X.A) : CallR X (.builtin "sorted") (rSortG cS X.K) :=
  cr_sortedG cS (fun {K H v p} h => by
    have e : v = .str p := h
    rw [e]
    exact .str p) (fun _ => PySem.W.Sortable.others fun b => ⟨(fun h => by cases h), (fun xs h => by cases h)⟩) (Nat.zero_le _) hr
end Bm
namespace Bm
open PySem PySem.Spec PyProof.Rows L2 Evl
/-! ### own.__init__(self, ..): the built-in's, found through an own class -/
structure OwnInit (K : PySem.W.Frag) (C : Addr) : Prop where
  rd : PySem.W.readsIn K C (.type "type") = true
  sp : PySem.W.specialIn K (.ref C) "__getattribute__" = some (some (.builtin "type.__getattribute__"))
  at_ : PySem.W.findCls K (.ref C) (.type "type") "__init__" = some (.val (.builtin "ValueError.__init__"))
section
variable {X : Cx} {e : Expr} {es : List Expr} {ta : TA}
theorem pe_ownInit {x : PySem.Str} {C0 : Addr} {p1 p2 pos : Pos} {pl : Sem Bool} (hg : Gl X x) (hm : X.mg x = some (.ref C0)) (O : OwnInit X.K C0) (ha : PA X (e :: es) ta) (hdb : (x == ("__debug__" : PySem.Str)) = false := by decide)
    (hc : eval (.Call (.Attribute (.Name x p1) "__init__" p2) (e :: es) [] pos) X.env = (do
      let ov ← eval (.Name x p1) X.env
      standAt p2.atName
      let (g, first) ← holding [ov] (getMethod ov "__init__" pl)
      callWith pos g first (backTo pos (starEach (e :: es) X.env)) (backToKw pos (keywordEach [] X.env))) := by rfl)
    (h1 : starEach (e :: es) X.env = (false, eval e X.env) :: starEach es X.env := by rfl) (h2 : (backTo pos (starEach es X.env)).any (·.1) = false := by rfl) :
    PE X (.Call (.Attribute (.Name x p1) "__init__" p2) (e :: es) [] pos) (tVeI X.K ta) := by
  refine ⟨fun pins s σ H Q I hq => PySem.W.methodCall_KW (ld_glob I hg hm ?_ hdb) hc⟩
  refine PySem.W.method_cls I.kIn O.sp (PySem.W.cls_value I.kIn O.rd O.at_ (by decide +kernel) ?_)
  show wpAny _ _ (callWith pos (Value.builtin "ValueError.__init__") [] (backTo pos (starEach (e :: es) X.env)) []) _ _ _
  refine PyProof.Rows.callWith_method1 (thn (ha.run pos pins _ σ H _ (I.tok _) hq) fun us s1 hh => ?_) h1 h2
  obtain ⟨vs, H1, I1, rr, a, C, ws, rfl, hw, T, ea, q⟩ := hh
  cases rr with
  | @cons _ v0 _ vr r0 r1 =>
    obtain rfl : v0 = Value.ref a := r0
    exact oinit_ok T I1 ea (by rw [← Paired.length r1]; exact szl hw) fun s' J => ⟨.non, H1, J, rfl, q⟩
/-! ### an own exception with its own __init__, its context None -/
theorem pmk_oexN {CX : CXT} {x : PySem.Str} {C fI : Addr} {k : Nat} {fd : FuncData} {ps : List PySem.Str} {sp : Sp} {p pos : Pos} (T : OexC X.K C) (iC : PySem.W.findIn X.K (.ref C) "__init__" = some (some (.ref fI))) (tI : PySem.W.typeIn X.K (.ref fI) = some (.type "function"))
    (F1 : FnOk X.prog X.w X.K X.mg X.base CX k fI fd ps sp) (hr : Room (k + 1) X.A) (hb : Binds X.K fd ps []) (hx : Passes CX X (fun _ _ _ => False)) (hg : Gl X x) (hm : X.mg x = some (.ref C)) (ha : PA X (e :: es) ta)
    (hdb : (x == ("__debug__" : PySem.Str)) = false := by decide) (h1 : starEach (e :: es) X.env = (false, eval e X.env) :: starEach es X.env := by rfl) (h2 : (backTo pos (starEach es X.env)).any (·.1) = false := by rfl) :
    L2N.PMk X (.Call (.Name x p) (e :: es) [] pos) (tMkO C sp [] ta) := by
  intro pins s σ H Q I hq
  obtain ⟨nm, qn, N, bs, bm, sn, sub, ab, col, dd, k0, k1, k2, k3, k5, hC, hbm⟩ := T.cls
  refine wpAny_Call_Name_kw (ld_glob I hg hm (PySem.W.callWith_K (h₀ := X.base) I.ok.mod.kin T.kC (thn (ha.run pos pins s σ H _ I hq) fun us s1 hh => ?_) h1 h2) hdb)
  obtain ⟨vs, H1, I1, r1, hz, q1⟩ := hh
  refine ⟨I1.kIn, ?_⟩
  show wpAny _ _ (call (.ref C) us) _ _ _
  obtain ⟨hp, g, dr, tk, os⟩ := s1
  generalize hn0 : hp.objs.size + 1 = n0
  have hle : hp.objs.size ≤ n0 := by rw [← hn0]; exact Nat.le_succ _
  have hq1 := q1 n0 (I1.hok.fresh hle)
  rw [List.append_nil] at hq1
  have old : ∀ b o, hp.get? b = some o → ((hp.push (PySem.W.kdv_tup us)).push (PySem.HandSPX.excO C hp.objs.size)).get? b = some o := fun b o z => Heap.get?_push_of_some _ (Heap.get?_push_of_some _ z)
  have new : ((hp.push (PySem.W.kdv_tup us)).push (PySem.HandSPX.excO C hp.objs.size)).get? n0 = some (PySem.HandSPX.excO C hp.objs.size) := by
    rw [← hn0]
    heap_get
  have I2 : Inv X pins σ (upd H1 n0 (exo n0 C none)) ⟨(hp.push (PySem.W.kdv_tup us)).push (PySem.HandSPX.excO C hp.objs.size), g, dr, tk, os⟩ := I1.laid (t' := tk) (h' := (hp.push (PySem.W.kdv_tup us)).push (PySem.HandSPX.excO C hp.objs.size)) old hle (exo_ok new)
  have r2 : Vals (V.ref n0 :: vs) (Value.ref n0 :: us) := .cons rfl r1
  have hl : (Value.ref n0 :: us).length = ps.length := by
    rw [← r2.length]
    exact F1.len _ _ _ _ hq1
  have b2 := hb _ (Value.ref n0 :: us) I2.kIn (by rw [List.append_nil]; exact hl)
  rw [List.append_nil] at b2
  have hus : us.length ≤ sizeLine := by
    rw [← Paired.length r1]
    exact szl hz
  have run1 := F1.run _ X.stack _ _ ⟨Value.ref n0 :: us, []⟩ (Value.ref n0 :: us) _ _ (fun _ _ _ => False) (hr.make C us []) (I2.env0.make C us []) b2 r2 hq1
  rw [← hn0] at run1
  refine wpAny_call (PySem.HandSPX.call_own F.excBase_ValueError (fun Y => PySem.HandSPX.refsVE_contains Y bm hbm) (I1.kIn _ _ hC) (PySem.W.looks_findIn I1.kIn iC) (fun self => PySem.W.bind_fn I1.kIn self tI) hus (codeAny_mono run1 fun r s' hr' => ?_))
  rw [hn0] at hr'
  cases r with
  | error er => exact hx pins σ _ _ er s' I2 hr'
  | ok fl =>
    cases fl with
    | ret u =>
      obtain ⟨v, H2, os2, bare2, un2, hok2, rv, ev, d, fs, ea, ed, hd1, q2⟩ := hr'
      subst ev
      obtain ⟨h2', g2, d2, t2, os'⟩ := s'
      obtain ⟨t0, G, J, kG, ge, hoe, na⟩ := mk_end0 (d2 := d2) (t2 := t2) I1 hle old un2 hok2 os2 bare2 ea ed hd1
      refine ⟨rv, ?_⟩
      rw [hn0]
      exact ⟨n0, _, _, ⟨G, g2, d2, t2, os'⟩, _, .ref C, some d, rfl, J, kG, ge, hoe, ⟨rfl, rfl, fun vs hv => by cases hv; rfl⟩, rfl, rfl, na, rfl, bare2, raises_own T.exC T.tyC, q2⟩
    | next => exact False.elim hr'
    | brk => exact False.elim hr'
    | cont => exact False.elim hr'
end
end Bm
namespace Bm
open PySem PySem.Spec PyProof.Rows L2 Evl HotX
/-! ### a list's end while an exception is handled -/
theorem listEnd_hot {prog : Program} {w : World} {A : Around} {E : Value → Shared → Prop} {s : Shared} {it l x1 : Addr} {i : Nat} {items : Array Value} {Q : Option Value → Shared → Prop} (hot : HotAt A x1 s.heap) (hne : x1 ≠ it)
    (hi : s.heap.IsListIter it l i) (hl : s.heap.IsList l items) (hx : items[i]? = none) (hQ : ∀ h', Heap.ExtBut it s.heap h' → Q none { s with heap := h' }) : wpAny (model prog w) A (pyNext (.ref it)) Q E s := by
  obtain ⟨hh, o1, vs1, g1, d1, c1⟩ := hot
  obtain ⟨o, ho, hc, hd⟩ := id hi
  obtain ⟨ol, hol, _, nl, hdl⟩ := hl
  unfold pyNext
  refine wpAny_bind (wpAny_attempt (wpAny_callSpecial?_slot (name := Str.ofString "__next__") hi.typeIs slot_listiter_next (wpAny_call_entry slot_listiter_next hi.typeIs entry_listiter_next ?_ (args_listiter_next _))))
  show wpAny _ _ (field (.ref it) 0 >>= _) _ _ s
  refine wpAny_bind (wpAny_field ho hd (x := .ref l) rfl ?_)
  show wpAny _ _ (if (Value.ref l == Value.none) = true then _ else _) _ _ s
  rw [if_neg (c := (Value.ref l == Value.none) = true) Bool.false_ne_true]
  show wpAny _ _ (field (.ref it) 1 >>= _) _ _ s
  refine wpAny_bind (wpAny_field ho hd (x := .int i 0) rfl ?_)
  show wpAny _ _ (seqItems? (.ref l) >>= _) _ _ s
  refine wpAny_bind (wpAny_seqItems hol hdl ?_)
  simp only [Int.toNat_natCast, hx]
  refine wpAny_bind (wpAny_rule (wpAny_bind (wpAny_setField ho hd (by simp) ?_)))
  show wpAny _ _ (newExc (.type "StopIteration") [] >>= _) _ _ _
  refine wpAny_bind ?_
  simp only [newExc, newTuple]
  refine wpAny_bind (wpAny_newObj_type (wpAny_bind (m := firstArgMember _ _) (wpAny_of_eq (a := Value.none) (by first | rfl | (simp only [firstArgMember]; rfl)) (wpAny_newObj_type ?_ (by size_fits)))) (by size_fits))
  refine raiseNew_hot ⟨hh, o1, vs1, (((Heap.SameBut.update ..).extBut.push _).push _) x1 o1 hne g1, d1, c1⟩ (Nat.ne_of_lt ?_) (Heap.get?_push_size _ rfl) rfl (by first | (simp; done) | (simp; omega) | (simp only [Array.size_append]; simp; omega)) ?_
  · have hlt : x1 < s.heap.objs.size := Heap.lt_size g1
    simp only [Heap.size_push, Heap.size_update]
    exact Nat.lt_succ_of_lt hlt
  · refine wpAny_bind (wpAny_isInstance (T := "StopIteration") (b := true) ⟨_, Heap.get?_update_self _ (Heap.get?_push_size _ rfl) rfl, rfl⟩ isSubtype_stop (wpAny_pure (hQ _ fun b ob hb z => ?_)))
    rw [Heap.get?_update_other _ _ (Nat.ne_of_gt ?_)]
    · exact (((Heap.SameBut.update ..).extBut.push _).push _) b ob hb z
    · have hlt : b < s.heap.objs.size := Heap.lt_size z
      simp only [Heap.size_push, Heap.size_update]
      exact Nat.lt_succ_of_lt hlt
/-! ### a comprehension over a list, told of the state at its start; it may stand where an exception is handled -/
theorem un_hot {fs ex : List Addr} {A : Around} {x1 : Addr} {H H' : Hp} {h h' : Heap} (u : Un fs ex H H' h h') (hn : H x1 = none) (hx : x1 ∉ ex) (hot : HotAt A x1 h) : HotAt A x1 h' := by
  obtain ⟨hh, o, vs, g, d, c⟩ := hot
  obtain ⟨sl, z⟩ := u.any g hn hx
  exact ⟨hh, _, vs, z, d, c⟩
/-- where an exception may be handled: none is, or it stands out of reach with no context -/
def Still (X : Cx) : Prop := ∀ (pins : List (Addr × Obj)) (σ : L2.St) (H : Hp) (s : Shared), Inv X pins σ H s → X.A.handled = none ∨ ∃ x1, HotAt X.A x1 s.heap ∧ H x1 = none ∧ ∀ b, FpOk X pins H b → x1 ≠ b
theorem Still.calm {X : Cx} (hc : X.calm = true) : Still X := fun _ _ _ _ I => .inl (I.ok.hd hc)
theorem Still.suite {X : Cx} {a : Addr} {oe : Obj} {pn : List (Addr × Obj)} {cls : Value} {d : Option Addr} (hz : L2N.Zn cls d oe) (hf : ∃ vs, oe.data = .fields vs) : Still (X.suite a ((a, oe) :: pn)) := fun pins σ H s I => by
  obtain ⟨vs, hv⟩ := hf
  have hm : (a, oe) ∈ (a, oe) :: pn ++ pins := List.mem_append_left _ List.mem_cons_self
  obtain ⟨g, hn, _⟩ := I.pin (a, oe) hm
  exact .inr ⟨a, ⟨rfl, oe, vs, g, hv, hz.2.2 vs hv⟩, hn, fun b hb => hb.2.2.2.2.2 (a, oe) hm⟩
theorem Still.hot {X : Cx} {a : Addr} {oe : Obj} {cls : Value} {d : Option Addr} (hz : L2N.Zn cls d oe) (hf : ∃ vs, oe.data = .fields vs) (hh : X.A.handled = some (.ref a)) (hm : (a, oe) ∈ X.pn) : Still X := fun pins σ H s I => by
  obtain ⟨vs, hv⟩ := hf
  obtain ⟨g, hn, _⟩ := I.pin (a, oe) (List.mem_append_left _ hm)
  exact .inr ⟨a, ⟨hh, oe, vs, g, hv, hz.2.2 vs hv⟩, hn, fun b hb => hb.2.2.2.2.2 (a, oe) (List.mem_append_left _ hm)⟩
def tLcT (K : PySem.W.Frag) (tl : TE) (g : TG) (tt : L2.St → TT) (te : TE) (vs : List Nat) : TE := fun σ H Q => tLc (iList K tl) g (tt σ) te vs σ H Q
theorem pe_lcT {X : Cx} {elt tg iter : Expr} {ifs : List Expr} {scope : Scope} {own : List (PySem.Str × Nat)} {pos : Pos} {tl : TE} {g : TG} {tt : L2.St → TT} {te : TE} (hN : X.N.Nodup) (hl : PE X iter tl) (ok : BlkOk X.N X.env.scope scope own) (hS : Still X)
    (hg : ∀ (s : Shared) (H : Hp) (C : Addr) (cl : List (PySem.Str × Addr)) (fp : List Addr), PG (X.blk s H scope (compEnvC scope cl C X.env) fp) tg g)
    (ht : ∀ (pins : List (Addr × Obj)) (σ : L2.St) (s : Shared) (H : Hp) (C : Addr) (cl : List (PySem.Str × Addr)) (fp : List Addr), Inv X pins σ H s → (∀ b ∈ fp, FpOk X pins H b) → PTs (X.blk s H scope (compEnvC scope cl C X.env) fp) ifs (tt σ))
    (he : ∀ (s : Shared) (H : Hp) (C : Addr) (cl : List (PySem.Str × Addr)) (fp : List Addr), PE (X.blk s H scope (compEnvC scope cl C X.env) fp) elt te) (K : PySem.W.Frag) (hK : X.K = K) (hs : ∀ x, foldedSetIterable iter X.env x = pure x := by intro _; rfl) :
    PE X (.ListComp elt [⟨tg, iter, ifs, 0⟩] scope pos) (tLcT K tl g tt te (own.map (·.2))) := by
  subst hK
  refine ⟨fun pins s σ H Q I hq => ?_⟩
  rw [eval_ListComp]
  refine wpAny_comprehension_free (use := none) rfl hs (closure_ok fun y hy z => (ok.free y hy z).elim (fun k => I.ok.has _ (.inl k)) fun k => I.ok.has _ (.inr k)) ok.kind (fun y hy z => by rw [ok.uniq y hy, z]) (thn (hl.run pins s σ H _ I hq) fun v s1 hv => ?_)
  obtain ⟨x, H1, I1, rv, a, rfl, ⟨xs0, hxs0⟩, hW⟩ := hv
  obtain rfl : v = Value.ref a := rv
  obtain ⟨its0, _, pl0, _⟩ := I1.list hxs0
  refine wpAny_pyIter_list pl0.isList (wpAny_newObj_type (newEnv_comp ?_) (by show 0 ≤ sizeLine; decide))
  -- the iterator
  generalize hit : s1.heap.objs.size = it
  generalize hs2 : ({ s1 with heap := s1.heap.push { cls := .type "list_iterator", data := .fields #[.ref a, .int 0 0] } } : Shared) = s2
  have I2 : Inv X pins σ H1 s2 := by
    rw [← hs2]
    exact I1.kept (t' := s1.toks) fun b o z => Heap.get?_push_of_some _ z
  have st2 : s2.heap.IsListIter it a 0 := by
    rw [← hs2, ← hit]
    exact ⟨_, Heap.get?_push_size _ rfl, rfl, rfl⟩
  have fit : FpOk X pins H1 it := by
    rw [← hit]
    exact I1.fpOk (Nat.le_refl _) (I1.hok.fresh (Nat.le_refl _))
  have e2 : s2.heap = s1.heap.push { cls := .type "list_iterator", data := .fields #[.ref a, .int 0 0] } := by rw [← hs2]
  generalize hD : s2.heap.objs.size = D
  have nD : H1 D = none := I2.hok.fresh (Nat.le_of_eq hD)
  obtain ⟨W, ⟨m0, w0⟩, turn⟩ := hW D nD
  generalize hs3 : ({ s2 with heap := s2.heap.push { cls := .type "list", data := .seq ([] : List Value).toArray } } : Shared) = s3
  have e3 : s3.heap = s2.heap.push { cls := .type "list", data := .seq ([] : List Value).toArray } := by rw [← hs3]
  have I3 : Inv X pins σ (upd H1 D (.lst [])) s3 := by
    rw [← hs3]
    refine I2.laid (t' := s2.toks) (fun b o z => Heap.get?_push_of_some _ z) (Nat.le_of_eq hD) ⟨Nat.zero_le _, [], 0, .nil, ?_⟩
    rw [← hD]
    exact Heap.get?_push_size _ rfl
  have lt2 : it < s2.heap.objs.size := by
    obtain ⟨o, z, _⟩ := st2
    exact Heap.lt_size z
  have nitD : it ≠ D := by
    rw [← hD]
    exact Nat.ne_of_lt lt2
  have f3 : ∀ b ∈ [it], FpOk X pins (upd H1 D (.lst [])) b ∧ b < s3.heap.objs.size := fun b hb => by
    obtain rfl : b = it := by simpa using hb
    refine ⟨⟨by rw [upd_ne nitD]; exact fit.1, fit.2⟩, ?_⟩
    rw [e3, Heap.size_push]
    exact Nat.lt_succ_of_lt lt2
  have st3 : s3.heap.IsListIter it a 0 := st2.at fun o z => by
    rw [e3]
    exact Heap.get?_push_of_some _ z
  have I4 := block_start I3 ok hN f3
  have still := hS pins σ _ s3 I3
  have pg := hg s3 (upd H1 D (.lst [])) s3.heap.objs.size (cellsFrom (s3.heap.objs.size + 1) scope.names (cloFrom X.env.cells scope.names [])) [it]
  have pt := ht pins σ s3 (upd H1 D (.lst [])) s3.heap.objs.size (cellsFrom (s3.heap.objs.size + 1) scope.names (cloFrom X.env.cells scope.names [])) [it] I3 fun b hb => (f3 b hb).1
  have pe := he s3 (upd H1 D (.lst [])) s3.heap.objs.size (cellsFrom (s3.heap.objs.size + 1) scope.names (cloFrom X.env.cells scope.names [])) [it]
  show codeAny _ _ (.compStart (.ListComp elt [⟨tg, iter, ifs, 0⟩] scope pos) 0 (.ref it) (.ref D) (compEnvC scope (cellsFrom (s3.heap.objs.size + 1) scope.names (cloFrom X.env.cells scope.names [])) s3.heap.objs.size X.env)) (compPost (model X.prog X.w) X.A X.xe none (EP X pins σ Q) (.ref D) s3.heap.objs.size) { s3 with heap := pushCells (s3.heap.push { cls := .type "dict", data := .dict #[] }) scope.names }
  generalize hce : compEnvC scope (cellsFrom (s3.heap.objs.size + 1) scope.names (cloFrom X.env.cells scope.names [])) s3.heap.objs.size X.env = ce at I4 pg pt pe ⊢
  have cL : ce.locals = s3.heap.objs.size := by rw [← hce]; rfl
  generalize hs4 : ({ s3 with heap := pushCells (s3.heap.push { cls := .type "dict", data := .dict #[] }) scope.names } : Shared) = s4 at I4 ⊢
  have st4 : s4.heap.IsListIter it a 0 := st3.at fun o z => by
    rw [← hs4]
    exact pushCells_keeps _ _ _ _ (Heap.get?_push_of_some _ z)
  generalize hH3 : upd H1 D (.lst []) = H3 at I3 I4 pg pt pe w0 f3 still
  have nit : H3 it = none := (f3 it List.mem_cons_self).1.1
  -- the iterator's object, as the block sees it
  have fpB : ∀ {σ' : L2.St} {H' : Hp} {s' : Shared}, Inv (X.blk s3 H3 scope ce [it]) [] σ' H' s' → H' it = none → FpOk (X.blk s3 H3 scope ce [it]) [] H' it := fun {σ' H' s'} J hn =>
    ⟨hn, (J.ok.exf it List.mem_cons_self).1, J.ok.exfs it List.mem_cons_self, .inl List.mem_cons_self, fun y c z => (J.ok.exf it List.mem_cons_self).2 y c z, fun q hq' => absurd (show q ∈ ([] : List (Addr × Obj)) ++ [] from hq') (by simp)⟩
  have loop : codeAny (model X.prog X.w) X.A (.compLoop (.ListComp elt [⟨tg, iter, ifs, 0⟩] scope pos) 0 (.ref it) (.ref D) ce) (compPost (model X.prog X.w) X.A X.xe none (EP X pins σ Q) (.ref D) s3.heap.objs.size) s4 := by
    refine compLoop_any (fun n s' => ∃ i H', Inv (X.blk s3 H3 scope ce [it]) [] (wipe σ (own.map (·.2))) H' s' ∧ s'.heap.IsListIter it a i ∧ H' it = none ∧ W i n H') (fun n s5 hI => ?_) m0 ⟨0, H3, I4, st4, nit, w0⟩
    obtain ⟨i, H5, I5, st5, n5, w5⟩ := hI
    obtain ⟨f0, f1, f2, f4, f5, f6⟩ := fpB I5 n5
    rcases turn i n H5 w5 with ⟨stop, qq⟩ | ⟨go, Nx, hNx, step⟩
    · obtain ⟨xs, hxs, hle⟩ := stop
      obtain ⟨its, rx, pl, _⟩ := I5.list hxs
      have hno : its.toArray[i]? = none := by
        have := rx.length
        simp
        omega
      have back : ∀ h', Heap.ExtBut it s5.heap h' → compPost (model X.prog X.w) X.A X.xe none (EP X pins σ Q) (.ref D) s3.heap.objs.size (.ok .next) { s5 with heap := h' } := fun h' eb => by
        have I6 : Inv (X.blk s3 H3 scope ce [it]) [] (wipe σ (own.map (·.2))) H5 { s5 with heap := h' } := I5.turned (t' := s5.toks) (fun b o hb z => eb b o hb z) f0 f1 f4 f5 f6
        have I7 : Inv X pins σ H5 { s5 with heap := h' } := I3.call' (ch := [it]) I6.os I6.base I6.hok I6.bare fun b hb => ⟨(f3 b hb).1.2.2.2.1, (f3 b hb).1.2.1, (f3 b hb).1.2.2.2.2.1, (f3 b hb).1.2.2.2.2.2⟩
        have nC : H5 s3.heap.objs.size = none := by
          rw [← cL]
          exact I6.free
        obtain ⟨m, hn, _⟩ := I6.loc
        have hn : h'.Ns ce.locals m := hn
        rw [cL] at hn
        obtain ⟨c0, c1, c2, c4, c5, c6⟩ := I3.fpOk (H' := H5) (Nat.le_refl s3.heap.objs.size) nC
        exact ⟨m, hn, fun h'' sb => ⟨.ref D, H5, I7.turned (t' := s5.toks) (fun b o hb z => (sb.2 b hb).trans z) c0 c1 c4 c5 c6, rfl, qq⟩⟩
      rcases still with hd | ⟨x1, hot, hn1, hne⟩
      · exact wpAny_pyNext_list_end hd st5 pl.isList hno back
      · have hb1 : x1 ≠ it := hne it (f3 it List.mem_cons_self).1
        exact listEnd_hot (un_hot I5.base hn1 (by simpa using hb1) hot) hb1 st5 pl.isList hno back
    · obtain ⟨xs, y, hxs, hy⟩ := go
      obtain ⟨its, rx, pl, _⟩ := I5.list hxs
      obtain ⟨u, hu, ru⟩ := rx.get hy
      refine wpAny_pyNext_list_item st5 pl.isList (x := u) (by simpa using hu) fun h' st6 sb => ?_
      have I6 : Inv (X.blk s3 H3 scope ce [it]) [] (wipe σ (own.map (·.2))) H5 { s5 with heap := h' } := I5.turned (t' := s5.toks) (fun b o hb z => (sb.2 b hb).trans z) f0 f1 f4 f5 f6
      obtain ⟨oi, zi, ci, di⟩ := id st6
      refine go_of (s := { s5 with heap := h' }) zi ci di (by decide) ?_
      have pinO : ∀ b ∈ [it], ∃ o, h'.get? b = some o ∧ ∀ v, o.data ≠ .cell v := fun b hb => by
        obtain rfl : b = it := by simpa using hb
        exact ⟨oi, zi, fun v z => by rw [di] at z; cases z⟩
      have I7 := I6.pinned (fp := [it]) (fun b hb => by
        obtain rfl : b = it := by simpa using hb
        exact fpB I6 n5) pinO
      refine thnF (pg.run _ _ _ H5 y u _ I7 ru (step y H5 ⟨rfl, fun ys hys => by rw [I5.list_inj hys hxs]; exact hy⟩)) fun _ s8 h8 => ?_
      obtain ⟨σ8, H8, I8, hw8, q8⟩ := h8
      refine thnF (pt.run _ s8 σ8 H8 _ I8 q8) fun b s9 h9 => ?_
      obtain ⟨H9, I9, q9⟩ := h9
      have fin : ∀ {s' : Shared} {H' : Hp}, Inv (X.blk s3 H3 scope ce [it]) ([] ++ pinsAt [it] h') σ8 H' s' → Nx H' → ∃ m, m < n ∧ ∃ i H', Inv (X.blk s3 H3 scope ce [it]) [] (wipe σ (own.map (·.2))) H' s' ∧ s'.heap.IsListIter it a i ∧ H' it = none ∧ W i m H' := fun {s' H'} J nx => by
        obtain ⟨m', hm, w'⟩ := hNx H' nx
        have z := J.pin (it, oi) (List.mem_append_right _ (List.mem_append_right _ (mem_pinsAt List.mem_cons_self zi)))
        have hl8 : (wipe σ (own.map (·.2))).length = σ8.length := by rw [← hw8, wipe_length]
        refine ⟨m', hm, i + 1, H', (J.unpinned (pins := [])).weak hl8 (fun j v z => ?_), ⟨oi, z.1, ci, di⟩, z.2.1, w'⟩
        rw [← hw8] at z
        exact (wipe_some z).1
      cases b with
      | false => exact fin I9 q9
      | true => exact thnF (pe.run _ s9 σ8 H9 _ I9 q9) fun z s10 ⟨yv, H10, I10, r10, acc, hD10, hz10, nx⟩ => app_ok (X := X.blk s3 H3 scope ce [it]) I10 hD10 hz10 r10 fun s11 I11 => fin I11 nx
  exact codeAny_compStart_list loop (wpAny_pyIter_listiter st4 loop)
end Bm
namespace Bm
open PySem PySem.Spec PyProof.Rows L2 Evl LamX NdefX
/-! ### lambdas that stand in the heap -/
structure LF where
  qual : PySem.Str
  params : Arguments
  body : Expr
  scope : Scope
  cl : List (PySem.Str × Addr)
  c : Addr
  dfl : Option Addr
def dfV : Option Addr → Value
  | none => .none
  | some T => .ref T
abbrev LF.fd (F : LF) (doc pm ctv : Value) : FuncData := PySem.W.kdv_fn "<lambda>" F.qual F.params (.expr F.body) F.scope F.cl (dfV F.dfl) doc pm (.ref F.c) ctv
def LF.nf (F : LF) : NF := ⟨"<lambda>", F.qual, F.params, [], F.scope, F.cl, F.c⟩
def LamO (f : Addr) (F : LF) : HO := .ext fun h => ∃ (od : Option Addr) (sl : Array (Option Value)) (doc pm ctv : Value), h.get? f = some (⟨.type "function", od, .func (F.fd doc pm ctv), sl⟩ : Obj)
structure LamAt (H : Hp) (f : Addr) (F : LF) : Prop where
  fn : H f = some (LamO f F)
  cd : H F.c = some (CodeO F.c F.qual)
  df : ∀ T, F.dfl = some T → H T = some (.tup [.int 0])
theorem LamAt.up {H H' : Hp} {f : Addr} {F : LF} (l : LamAt H f F) (e : Ex H H') : LamAt H' f F := ⟨e _ _ l.fn, e _ _ l.cd, fun T z => e _ _ (l.df T z)⟩
theorem lamO_tbl {f : Addr} {F : LF} (ps : Array Value) : LamO f F ≠ .tbl ps := fun z => by
  unfold LamO at z
  cases z
theorem LamAt.ext {H H' : Hp} {f : Addr} {F : LF} (l : LamAt H f F) (e : ExtN H H') : LamAt H' f F := ⟨e _ _ l.fn lamO_tbl, e _ _ l.cd codeO_ne, fun T z => e _ _ (l.df T z) fun ps y => by cases y⟩
theorem lam_at {P : Program} {w : World} {H : Hp} {h : Heap} {f : Addr} {F : LF} (hok : HOk P w H h) (l : H f = some (LamO f F)) : ∃ (od : Option Addr) (sl : Array (Option Value)) (doc pm ctv : Value), h.get? f = some (⟨.type "function", od, .func (F.fd doc pm ctv), sl⟩ : Obj) := by
  obtain ⟨z, _, _⟩ := hok f _ l
  exact z
theorem CellsAt.go {cl : List (PySem.Str × Addr)} {fr : List PySem.Str} {ws : List (Option V)} {fs ex : List Addr} {h h' : Heap} {H H' : Hp} (C : CellsAt cl fr ws h H) (u : Un fs ex H H' h h') (hx : ∀ y c, cl.lookup y = some c → c ∉ ex) : CellsAt cl fr ws h' H' := by
  have kp : ∀ y c, cl.lookup y = some c → ∀ v, h.IsCell c v → h'.IsCell c v := fun y c e v ⟨o, ho, hd⟩ => by
    obtain ⟨sl, z⟩ := u.any ho (C.all y c e).1 (hx y c e)
    exact ⟨_, z, hd⟩
  refine ⟨C.len, fun y c e => ?_, C.inj, fun i y e => ?_⟩
  · obtain ⟨n, v, z⟩ := C.all y c e
    obtain ⟨o, ho, hd⟩ := id z
    exact ⟨u.free c o ho n (hx y c e), v, kp y c e v z⟩
  · obtain ⟨c, hc, hv⟩ := C.has i y e
    refine ⟨c, hc, fun v ev => ?_⟩
    obtain ⟨a, r, z⟩ := hv v ev
    exact ⟨a, r, kp y c hc _ z⟩
section
variable {X : Cx} {pins : List (Addr × Obj)} {σ : L2.St} {H : Hp} {s : Shared}
theorem inv_lam {F : LF} {t' : Nat} {doc pm ctv : Value} (I : Inv X pins σ H s) : Inv X pins σ (upd H s.heap.objs.size (LamO s.heap.objs.size F)) { s with heap := s.heap.push { cls := .type "function", data := .func (F.fd doc pm ctv) }, toks := t' } := by
  have z : (s.heap.push ({ cls := .type "function", data := .func (F.fd doc pm ctv) } : Obj)).get? s.heap.objs.size = some ({ cls := .type "function", data := .func (F.fd doc pm ctv) } : Obj) := Heap.get?_push_size _ rfl
  exact I.laid (a := s.heap.objs.size) (fun b u e => Heap.get?_push_of_some _ e) (Nat.le_refl _) ⟨⟨_, _, doc, pm, ctv, z⟩, ⟨_, z⟩, fun h1 h2 ⟨od, sl, d, p, t, y⟩ st => ⟨od, sl, d, p, t, st _ y⟩⟩
theorem tabS_more {P c : Addr} {q : PySem.Str} {ps : Array Value} {pos : Pos} (hP : H P = some (.tbl ps)) (ht : TriplesOk ps.toList) (ha : ∀ (pos : Pos) (cv : Value), codeAmong pos ps.toList = some cv → ∃ c, cv = .ref c ∧ H c = some (CodeO c q)) (nC : H c = none) :
    ExtN H (upd (upd H P (.tbl (ps ++ #[rawInt pos.line, rawInt pos.col, .ref c]))) c (CodeO c q)) ∧ TabS (upd (upd H P (.tbl (ps ++ #[rawInt pos.line, rawInt pos.col, .ref c]))) c (CodeO c q)) P q := by
  have hE : ExtN H (upd (upd H P (.tbl (ps ++ #[rawInt pos.line, rawInt pos.col, .ref c]))) c (CodeO c q)) := fun b o e n => by
    have hb : b ≠ P := fun z => by
      rw [z, hP] at e
      exact n ps (Option.some.inj e).symm
    rw [upd_ne (ne_of_none e nC), upd_ne hb]
    exact e
  have eL : (ps ++ #[rawInt pos.line, rawInt pos.col, .ref c]).toList = ps.toList ++ [rawInt pos.line, rawInt pos.col, .ref c] := by simp
  refine ⟨hE, _, (upd_ne (ne_of_none hP nC)).trans upd_same, by rw [eL]; exact PySem.TriplesOk_snoc _ _ _ _ ht, fun p' cv hcv => ?_⟩
  rw [eL] at hcv
  rcases among_app _ ht hcv with z | z
  · obtain ⟨c0, z1, z2⟩ := ha p' cv z
    exact ⟨c0, z1, hE _ _ z2 codeO_ne⟩
  · exact ⟨c, z, upd_same⟩
/-- the function's object is made: its code object is new, or found in the table -/
theorem lam_made {P c : Addr} {params : Arguments} {body : Expr} {scope : Scope} {pos : Pos} {dfl : Option Addr} {E : Value → Shared → Prop} {Q : Value → Shared → Prop} (I : Inv X pins σ H s) (TB : TabB X.base X.mg c P) (hcode : X.env.code = .ref c) (hT : TabS H P (X.env.qual ++ "<lambda>"))
    (hfree : ∀ y ∈ scope.names, y.2 = .free → ∃ c, X.env.cells.lookup y.1 = some c) (hd : ∀ T, dfl = some T → H T = some (.tup [.int 0]))
    (k : ∀ (f c' : Addr) (H1 : Hp) (s' : Shared), Inv X pins σ H1 s' → ExtN H H1 → TabS H1 P (X.env.qual ++ "<lambda>") → H f = none → LamAt H1 f ⟨X.env.qual ++ "<lambda>", params, body, scope, cloFrom X.env.cells scope.names [], c', dfl⟩ → Q (.ref f) s') :
    wpAny (model X.prog X.w) X.A (makeTail "<lambda>" (X.env.qual ++ "<lambda>") params (.expr body) scope X.env (dfV dfl) .none none pos pos.line) Q E s := by
  obtain ⟨ps, hP, ht, ha⟩ := hT
  have bP : s.heap.BuiltinsAt X.mg P := TB.bm.keeps I.bk
  have gP : s.heap.get? P = some { cls := .none, data := .fields ps } := I.hok P _ hP
  cases hc : codeAmong pos ps.toList with
  | none =>
    refine PySem.W.kdv_makeTail (mg := X.mg) (c := c) (P := P) (ps := ps) (closure_ok hfree) I.ok.glob (I.mod.glob.keeps I.bk) hcode (TB.code.keeps I.bk) gP ht hc TB.gP bP fun c' ctv doc h' tk hx hge hlt hrec htb => ?_
    obtain ⟨c2, oc, vs, t, z2, hoc, hdc, hv⟩ := hrec
    cases z2
    have nC : H c' = none := I.hok.fresh hge
    have I1 := inv_table (t' := tk) (more := #[rawInt pos.line, rawInt pos.col, .ref c']) (h' := h') I hP (fun b o hb z => hx b o hb z) htb hge ⟨oc, vs, t, hoc, hdc, hv⟩
    obtain ⟨eN, T1⟩ := tabS_more (pos := pos) hP ht ha nC
    have nF := I1.hok.fresh (Nat.le_refl _)
    have I2 := inv_lam (F := ⟨X.env.qual ++ "<lambda>", params, body, scope, cloFrom X.env.cells scope.names [], c', dfl⟩) (t' := tk) (doc := doc) (pm := (X.mg "__name__").getD .none) (ctv := ctv) I1
    have eX := Ex.new (o := LamO h'.objs.size ⟨X.env.qual ++ "<lambda>", params, body, scope, cloFrom X.env.cells scope.names [], c', dfl⟩) nF
    refine k h'.objs.size c' _ _ I2 (eN.trans (ExtN.of eX)) (T1.ext eX) (I.hok.fresh (Nat.le_trans hge (Nat.le_of_lt hlt))) ⟨upd_same, eX _ _ upd_same, fun T z => eX _ _ (eN _ _ (hd T z) fun ps y => by cases y)⟩
  | some cv =>
    obtain ⟨c', z, hco⟩ := ha pos cv hc
    subst z
    refine PySem.W.kdv_makeTailHit (mg := X.mg) (c := c) (P := P) (ps := ps) (closure_ok hfree) I.ok.glob (I.mod.glob.keeps I.bk) hcode (TB.code.keeps I.bk) gP ht hc bP fun ctv doc h' tk hx hsz => ?_
    have I1 : Inv X pins σ H { s with heap := h', toks := tk } := I.kept hx
    have nF : H h'.objs.size = none := I1.hok.fresh (Nat.le_refl _)
    have I2 := inv_lam (F := ⟨X.env.qual ++ "<lambda>", params, body, scope, cloFrom X.env.cells scope.names [], c', dfl⟩) (t' := tk) (doc := doc) (pm := (X.mg "__name__").getD .none) (ctv := ctv) I1
    have eX := Ex.new (o := LamO h'.objs.size ⟨X.env.qual ++ "<lambda>", params, body, scope, cloFrom X.env.cells scope.names [], c', dfl⟩) nF
    exact k h'.objs.size c' _ _ I2 (ExtN.of eX) (TabS.ext ⟨ps, hP, ht, ha⟩ eX) nF ⟨upd_same, eX _ _ hco, fun T z => eX _ _ (hd T z)⟩
end
/-- the reading of a lambda's making -/
def tLamM (P : Addr) (q : PySem.Str) (b : Bool) (mk : Addr → Option Addr → LF) : TE := fun _ H Q => TabS H P q ∧ ∀ (f c' : Addr) (dfl : Option Addr) (H1 : Hp), ExtN H H1 → TabS H1 P q → H f = none → dfl.isSome = b → LamAt H1 f (mk c' dfl) → Q (.ref f) H1
section
variable {X : Cx} {P c : Addr} {params : Arguments} {body : Expr} {scope : Scope} {pos : Pos}
theorem pe_lam0 (TB : TabB X.base X.mg c P) (hcode : X.env.code = .ref c) (L : LamS X.env.scope scope) (hdef : defaultsOf params X.env = ([], [])) : PE X (.Lambda params body scope pos) (tLamM P (X.env.qual ++ "<lambda>") false fun c' dfl => ⟨X.env.qual ++ "<lambda>", params, body, scope, cloFrom X.env.cells scope.names [], c', dfl⟩) := by
  refine ⟨fun pins s σ H Q I hq => PySem.W.kla_eval hdef ?_⟩
  obtain ⟨hT, k⟩ := hq
  rw [makeFunction_eq]
  simp only [List.zip_nil_right, List.filterMap_nil, List.isEmpty_nil, if_true, pure_bind]
  exact lam_made (dfl := none) I TB hcode hT (L.has I.ok) (fun T z => nomatch z) fun f c' H1 s' J eN T1 nf l => ⟨.ref f, H1, J, rfl, k f c' none H1 eN T1 nf rfl l⟩
/-- no parameter is captured -/
structure LamP (sc scope : Scope) : Prop where
  free : ∀ y ∈ scope.names, y.2 = .free → sc.names.lookup y.1 = some .cell ∨ sc.names.lookup y.1 = some .free
theorem LamP.has {scope : Scope} (L : LamP X.env.scope scope) (ok : X.Ok) : ∀ y ∈ scope.names, y.2 = .free → ∃ c, X.env.cells.lookup y.1 = some c := fun y hy e => (L.free y hy e).elim (fun z => ok.has _ (.inl z)) fun z => ok.has _ (.inr z)
def lamPB (sc scope : Scope) : Bool := scope.names.all fun y => !decide (y.2 = .free) || (decide (sc.names.lookup y.1 = some .cell) || decide (sc.names.lookup y.1 = some .free))
theorem lamP_by {sc scope : Scope} (h : lamPB sc scope = true) : LamP sc scope := ⟨fun y hy e => by
  have z := List.all_eq_true.mp h y hy
  rw [Bool.or_eq_true, Bool.or_eq_true] at z
  rcases z with z | z | z
  · rw [decide_eq_true e] at z
    cases z
  · exact .inl (of_decide_eq_true z)
  · exact .inr (of_decide_eq_true z)⟩
theorem pe_lamA (TB : TabB X.base X.mg c P) (hcode : X.env.code = .ref c) (L : LamP X.env.scope scope) (hdef : defaultsOf params X.env = ([], [])) : PE X (.Lambda params body scope pos) (tLamM P (X.env.qual ++ "<lambda>") false fun c' dfl => ⟨X.env.qual ++ "<lambda>", params, body, scope, cloFrom X.env.cells scope.names [], c', dfl⟩) := by
  refine ⟨fun pins s σ H Q I hq => PySem.W.kla_eval hdef ?_⟩
  obtain ⟨hT, k⟩ := hq
  rw [makeFunction_eq]
  simp only [List.zip_nil_right, List.filterMap_nil, List.isEmpty_nil, if_true, pure_bind]
  exact lam_made (dfl := none) I TB hcode hT (L.has I.ok) (fun T z => nomatch z) fun f c' H1 s' J eN T1 nf l => ⟨.ref f, H1, J, rfl, k f c' none H1 eN T1 nf rfl l⟩
theorem pe_lamD {j : Nat} {p0 : Pos} (TB : TabB X.base X.mg c P) (hcode : X.env.code = .ref c) (L : LamP X.env.scope scope) (hd0 : params.defaults = [.Constant (.int 0) j p0]) (hk0 : params.kw_defaults = []) : PE X (.Lambda params body scope pos) (tLamM P (X.env.qual ++ "<lambda>") true fun c' dfl => ⟨X.env.qual ++ "<lambda>", params, body, scope, cloFrom X.env.cells scope.names [], c', dfl⟩) := by
  refine ⟨fun pins s σ H Q I hq => PySem.W.kdv_lam (by rw [hd0]; rfl) hk0 ?_⟩
  obtain ⟨hT, k⟩ := hq
  rw [hd0]
  refine PySem.W.kdv_all1 (thn ((pe_int (X := X) (i := 0) (pos := p0)).run pins s σ H (fun v H1 => v = .int 0 ∧ H1 = H) I ⟨rfl, rfl⟩) fun u s1 hu => PySem.W.kdv_all0 ?_)
  obtain ⟨v, H1, I1, rv, rfl, rfl⟩ := hu
  rw [makeFunction_eq]
  simp only [List.zip_nil_right, List.filterMap_nil, List.isEmpty_nil, if_true, pure_bind, List.isEmpty_cons, Bool.false_eq_true, if_false]
  refine wpAny_bind (wpAny_newTextTuple ?_)
  have nT : H1 s1.heap.objs.size = none := I1.hok.fresh (Nat.le_refl _)
  have I2 : Inv X pins σ (upd H1 s1.heap.objs.size (.tup [.int 0])) { s1 with heap := s1.heap.push { cls := .type "tuple", data := .seq [u].toArray } } :=
    I1.laid (t' := s1.toks) (a := s1.heap.objs.size) (fun b o z => Heap.get?_push_of_some _ z) (Nat.le_refl _) ⟨by show 1 ≤ sizeLine; decide, [u], .cons rv .nil, _, Heap.get?_push_size _ rfl, rfl, _, rfl⟩
  have eX := Ex.new (o := .tup [.int 0]) nT
  refine lam_made (dfl := some s1.heap.objs.size) I2 TB hcode (hT.ext eX) (L.has I.ok) (fun T z => by cases z; exact upd_same) fun f c' H3 s' J eN T1 nf l => ⟨.ref f, H3, J, rfl, k f c' _ H3 ((ExtN.of eX).trans eN) T1 (upd_none nf) rfl l⟩
end
/-! ### called -/
theorem lam_run {P : Program} {w : World} {K : PySem.W.Frag} {mg : PySem.Str → Option Value} {base : Heap} {N ps fr : List PySem.Str} {F : LF} {f : Addr} {k : Nat} {A : Around} {outer : List Env} {s : Shared} {H : Hp} {Q : VK} {E : XK} {ws : List (Option V)} {t : TE}
    (S : NScope N ps fr F.scope) (l : LamAt H f F) (hb0 : F.dfl = none → ps = [] ∧ ∀ doc pm ctv : Value, bindArgs (F.fd doc pm ctv) ⟨[], []⟩ = pure [])
    (hb1 : ∀ T, F.dfl = some T → ps.length = 1 ∧ ∀ doc pm ctv u : Value, ∃ k, bindArgs (F.fd doc pm ctv) ⟨[], []⟩ = seqItems? (F.fd doc pm ctv).defaults >>= k ∧ k (some [u].toArray) = pure (ps.zip [u]))
    (hr : Room (k + 1) A) (e0 : Env0 P w K mg base A outer s H) (C : CellsAt F.cl fr ws s.heap H) (hbody : Room k (A.deeper (envF F.nf f s.heap.objs.size)) → PE (ncx (L2N.CX P w) P w K mg base N F.nf f A outer s H E) F.body t) (ht : ∀ vs : List V, vs.length = ps.length → t (startF N vs ws) H Q) :
    codeAny (model P w) A (.call (.ref f) ⟨[], []⟩) (CR (L2N.CX P w) outer P w H s Q E) s := by
  have lim : s.heap.NoLimit := e0.mod.nolimit.keeps fun b o z => (e0.bs b o z).1
  obtain ⟨od, sl, doc, pm, ctv, ho⟩ := lam_at e0.hok l.fn
  obtain ⟨us, vs, hvl, rv, hbt⟩ : ∃ (us : List Value) (vs : List V), vs.length = ps.length ∧ Vals vs us ∧ BindsTo s (F.fd doc pm ctv) ⟨[], []⟩ (ps.zip us) := by
    cases hF : F.dfl with
    | none =>
      obtain ⟨z1, z2⟩ := hb0 hF
      exact ⟨[], [], by rw [z1]; rfl, .nil, .of_eq (by rw [z1]; exact z2 doc pm ctv)⟩
    | some T =>
      obtain ⟨z1, z2⟩ := hb1 T hF
      obtain ⟨_, its, rt, o, g, cls, n, hd⟩ := e0.hok T _ (l.df T hF)
      cases rt with
      | cons r0 r1 =>
        cases r1
        obtain ⟨kk, k1, k2⟩ := z2 doc pm ctv _
        exact ⟨_, [.int 0], by rw [z1]; rfl, .cons r0 .nil, BindsTo.of_defaults (by show dfV F.dfl = _; rw [hF]; rfl) g hd k1 k2⟩
  refine PySem.W.kla_callFunE hr.depth ho rfl S.co S.gen rfl (codeO_at e0.hok l.cd) (hbt _ _ _ _ ?_)
  refine wpAny_newFunctionEnv S.nocell (fun ⟨n, _⟩ hy => S.par n (List.of_mem_zip hy).1) (fun h₁ hns hsb => ⟨lim.fresh _ hsb, ?_⟩) S.kind
  show codeAny _ _ (.expr F.body (envF F.nf f s.heap.objs.size)) _ _
  have kp : ∀ b o, s.heap.get? b = some o → h₁.get? b = some o := fun b o z => hsb.extBut b o (Nat.ne_of_lt (Heap.lt_size z)) (Heap.get?_push_of_some _ z)
  have J : Inv (ncx (L2N.CX P w) P w K mg base N F.nf f A outer s H E) [] (startF N vs ws) H { s with heap := h₁, toks := s.toks + (ps.zip us).length } := inv_startN (F := F.nf) S hr.hd e0 hvl rv C hns kp
  refine PySem.W.kla_codeExpr (wpAny_mono ((hbody (hr.deeper _)).run [] _ _ H Q J (ht vs hvl)) (fun v s' hv => ?_) fun e s' hv => hv)
  obtain ⟨v', H', J', rv', q⟩ := hv
  exact ⟨v', H', J'.os, J'.bare, J'.base, J'.hok, rv', q⟩
end Bm
namespace Bm
open PySem PySem.Spec PyProof.Rows L2 Evl LamX NdefX
/-! ### what is refused, with which class and which value of its own -/
inductive Rf where
  | pat (n : Nat)
  | num
  | non (n : Nat)
def Rf.word : Rf → PySem.Str
  | .pat _ => "pattern"
  | .num => "number"
  | .non _ => "none"
def Rf.val : Rf → Nat
  | .pat n => n
  | .num => 0
  | .non n => n
abbrev cM (K : PySem.W.Frag) : Addr := He.ga K "MeetError"
abbrev cPt (K : PySem.W.Frag) : Addr := He.ga K "BadPattern"
abbrev cNm (K : PySem.W.Frag) : Addr := He.ga K "BadNumber"
abbrev cNo (K : PySem.W.Frag) : Addr := He.ga K "NoPattern"
def RaiseW (K : PySem.W.Frag) (r : Rf) (H : Hp) (E : XK) : Prop := match r with
  | .pat n => ∀ d H', Ex H H' → H d = none → H' d = some (.xd [("at", .int (n : Nat))]) → E (.ref (cPt K)) (some d) H'
  | .num => ∀ H', Ex H H' → E (.ref (cNm K)) none H'
  | .non n => ∀ d H', Ex H H' → H d = none → H' d = some (.xd [("number", .int (n : Nat))]) → E (.ref (cNo K)) (some d) H'
theorem RaiseW.up {K : PySem.W.Frag} {r : Rf} {H H' : Hp} {E : XK} (h : RaiseW K r H E) (e : Ex H H') : RaiseW K r H' E := by
  cases r with
  | pat n => exact fun d H2 e2 hd h2 => h d H2 (e.trans e2) (fresh_back e hd) h2
  | num => exact fun H2 e2 => h H2 (e.trans e2)
  | non n => exact fun d H2 e2 hd h2 => h d H2 (e.trans e2) (fresh_back e hd) h2
/-- an own class with its own __init__ -/
structure ErrI (K : PySem.W.Frag) (C : Addr) (f : PySem.Str) : Prop where
  o : OexC K C
  no : PySem.W.findIn K (.ref C) f = some none
  init : PySem.W.findIn K (.ref C) "__init__" = some (some (.ref (He.ma K C "__init__")))
  ty : PySem.W.typeIn K (.ref (He.ma K C "__init__")) = some (.type "function")
  xf : XfC K C
/-- how isinstance and except take it -/
structure ErrC (K : PySem.W.Frag) (C : Addr) (b1 b2 b3 : Bool) : Prop where
  ec : ExcC K C
  exm : PySem.W.exmOne K (.ref C) (.ref (cM K)) = some true
  k1 : PySem.W.kitOne K (.ref C) (.ref (cPt K)) = some b1
  k2 : PySem.W.kitOne K (.ref C) (.ref (cNm K)) = some b2
  k3 : PySem.W.kitOne K (.ref C) (.ref (cNo K)) = some b3
  kv : PySem.W.kitOne K (.ref C) (.type "ValueError") = some true
structure Errs (K : PySem.W.Frag) (mg : PySem.Str → Option Value) : Prop where
  gM : mg "MeetError" = some (.ref (cM K))
  gP : mg "BadPattern" = some (.ref (cPt K))
  gN : mg "BadNumber" = some (.ref (cNm K))
  gO : mg "NoPattern" = some (.ref (cNo K))
  gV : mg "ValueError" = none
  iM : OwnInit K (cM K)
  iP : ErrI K (cPt K) "at"
  iO : ErrI K (cNo K) "number"
  xN : PySem.W.excIn K (cNm K) He.veBase "ValueError.__new__" = true
  kN : PySem.W.keepIn K (.ref (cNm K)) = true
  bN : PySem.W.subIn K (.ref (cNm K)) (.type "BaseException") = some true
  tN : PySem.W.typeIn K (.ref (cNm K)) = some (.type "type")
  eP : ErrC K (cPt K) true false false
  eN : ErrC K (cNm K) false true false
  eO : ErrC K (cNo K) false false true
/-! ### defs that raise -/
structure CalX (P : Program) (w : World) (K : PySem.W.Frag) (mg : PySem.Str → Option Value) (base : Heap) (k : Nat) (x : PySem.Str) (ps : List PySem.Str) (sp : Sp) : Prop where
  ex : ∃ f fd, FnOk P w K mg base (L2N.CX P w) k f fd ps sp ∧ mg x = some (.ref f) ∧ PySem.W.keepIn K (.ref f) = true ∧ Binds K fd ps []
theorem pe_callX {X : Cx} {k j : Nat} {x : PySem.Str} {ps : List PySem.Str} {sp : Sp} {e : Expr} {es : List Expr} {t : TA} {p pos : Pos} {E : XK} (C : CalX X.prog X.w X.K X.mg X.base k x ps sp) (hr : Room j X.A) (hk : k ≤ j) (hx : Passes (L2N.CX X.prog X.w) X E) (ha : PA X (e :: es) t) (hg : Gl X x := by rfl)
    (hdb : (x == ("__debug__" : PySem.Str)) = false := by decide) (h1 : starEach (e :: es) X.env = (false, eval e X.env) :: starEach es X.env := by rfl) (h2 : (backTo pos (starEach es X.env)).any (·.1) = false := by rfl) :
    PE X (.Call (.Name x p) (e :: es) [] pos) (tCall sp [] E t) := by
  obtain ⟨f, fd, F, hm, kp, b⟩ := C.ex
  exact pe_call F (hr.mono hk) hg hm kp b .nil hx ha hdb h1 h2
section
variable {P : Program} {w : World} {K : PySem.W.Frag} {mg : PySem.Str → Option Value} {base : Heap}
theorem Def1.calX {x : PySem.Str} {st : Stmt} {N ps : List PySem.Str} {k : Nat} {sp : Sp} (D : Def1 K mg x st) (S : FnScope N ps (defScope st))
    (hb : ∀ (kV doc pm : Value) (an : Option Addr) (cdv ct : Value) (us : List Value), us.length = ps.length → bindArgs (PySem.W.fnOf x x (defArgs st) (defBody st) (defScope st) .none kV doc pm an cdv ct) ⟨us, []⟩ = pure (ps.zip us))
    (len : ∀ vs H Q E, sp vs H Q E → vs.length = ps.length)
    (hbody : ∀ (f : Addr) (cdv : Value) (A : Around) (outer : List Env) (s : Shared) (H : Hp) (vs : List V) (Q : VK) (E : XK), Room k (A.deeper (envOfC x (defScope st) s.heap.objs.size f cdv)) → sp vs H Q E →
      ∃ t, PSs (cxOf (L2N.CX P w) P w K mg base N x (defScope st) f cdv A outer s H E) (defBody st) t ∧ t { nx := fun _ H' => Q .non H', rt := Q } (start N vs) H) : CalX P w K mg base (k + 1) x ps sp := by
  obtain ⟨f, fd, F, hm⟩ := D.ex
  exact ⟨f, fd, F.ok S len fun cdv A outer s H vs Q E hr h => hbody f cdv A outer s H vs Q E hr h, hm, F.kp, F.bindsN hb⟩
/-- the __init__ of an own class -/
structure Ini (K : PySem.W.Frag) (C : Addr) (q : PySem.Str) (st : Stmt) : Prop where
  ex : ∃ fd, FunD K "__init__" q (defArgs st) (defBody st) (defScope st) [] [] (He.ma K C "__init__") fd
def spInit (K : PySem.W.Frag) (C : Addr) (f : PySem.Str) : Sp := fun vs H Q _ => ∃ (a : Addr) (v : V), vs = [.ref a, v] ∧ H a = some (exo a C none) ∧ ∀ dx, H dx = none → dx ≠ a → Q .non (upd (upd H dx (exd dx [(f, v)])) a (exo a C (some dx)))
structure CalI (P : Program) (w : World) (K : PySem.W.Frag) (mg : PySem.Str → Option Value) (base : Heap) (C : Addr) (f : PySem.Str) : Prop where
  ex : ∃ fd ps, FnOk P w K mg base CX0 1 (He.ma K C "__init__") fd ps (spInit K C f) ∧ Binds K fd ps []
end
/-- C(e): what it leaves -/
theorem r_mkE {K : PySem.W.Frag} {C : Addr} {f : PySem.Str} {te : TE} {σ : L2.St} {H : Hp} {v : V} {Q : XK} (hv : Ev te σ H v) (hQ : ∀ d H', Ex H H' → H d = none → H' d = some (.xd [(f, v)]) → Q (.ref C) (some d) H') : tMkO C (spInit K C f) [] (tCons te tNil) σ H Q :=
  hv H (Ex.refl H) _ fun H1 e1 => ⟨by show 1 ≤ 1000; decide, fun a ha => ⟨a, v, rfl, upd_same, fun dx hdx hne => by
    have hd1 : H1 dx = none := by
      rw [upd_ne hne] at hdx
      exact hdx
    refine ⟨rfl, dx, [(f, v)], upd_same, by rw [upd_ne hne, upd_same], hd1, hQ dx _ (e1.trans fun b o hb => ?_) (fresh_back e1 hd1) upd_same⟩
    have hba := ne_of_none hb ha
    have hbd := ne_of_none hb hd1
    rw [upd_ne hbd, del_ne hba, upd_ne hba, upd_ne hbd, upd_ne hba]
    exact hb⟩⟩
theorem pmk_err {X : Cx} {x f : PySem.Str} {C : Addr} {e : Expr} {te : TE} {p pos : Pos} {k : Nat} (T : ErrI X.K C f) (I0 : CalI X.prog X.w X.K X.mg X.base C f) (hr : Room k X.A) (hk : 2 ≤ k) (hg : Gl X x) (hm : X.mg x = some (.ref C)) (he : PE X e te)
    (hdb : (x == ("__debug__" : PySem.Str)) = false := by decide) (h0 : starEach [e] X.env = (false, eval e X.env) :: starEach [] X.env := by rfl) (h2 : (backTo pos (starEach [] X.env)).any (·.1) = false := by rfl) : L2N.PMk X (.Call (.Name x p) [e] [] pos) (tMkO C (spInit X.K C f) [] (tCons te tNil)) := by
  obtain ⟨fd, ps, F, b⟩ := I0.ex
  exact pmk_oexN (pos := pos) (p := p) T.o T.init T.ty F (hr.mono hk) b pass0 hg hm (pa_cons he pa_nil (by exact h0)) hdb h0 h2
/-! ### the caught one -/
/-- isinstance(e, c), e the exception that the suite holds, its dict told -/
def rIsX (K : PySem.W.Frag) (a : Addr) (cls : Value) (d : Option Addr) : List V → Hp → VK → Prop := fun xs H Q => ∃ (D : Addr) (c : V) (cv : Value) (b : Bool), cls = .ref D ∧ ExcC K D ∧ xs = [.ref a, c] ∧ (∀ u, RelV c u → u = cv) ∧ PySem.W.kitOne K (.ref D) cv = some b ∧ (∀ dd, d = some dd → ∃ fs, H dd = some (.xd fs)) ∧ Q (.bl b) H
theorem call_isX {X : Cx} {a : Addr} {oe : Obj} {pn : List (Addr × Obj)} {cls : Value} {d : Option Addr} (hz : Zc cls d oe) (hf : ∃ vs, oe.data = .fields vs) : CallR (X.suite a ((a, oe) :: pn)) (.builtin "isinstance") (rIsX X.K a cls d) := by
  intro pins s σ H xs us Q I r h
  obtain ⟨D, c, cv, b, rfl, C, rfl, hcv, hk, hdd, q⟩ := h
  cases r with
  | cons rx rr =>
    cases rr with
    | cons rt rr =>
      cases rr
      cases rx
      have ec := hcv _ rt
      subst ec
      obtain ⟨hget, _⟩ := I.pin (a, oe) (List.mem_append.mpr (.inl List.mem_cons_self))
      obtain ⟨vs, hv⟩ := hf
      obtain ⟨od, J⟩ : ∃ od, PySem.W.InstAt s.heap a oe D od := by
        cases hd : d with
        | none => exact ⟨none, hget, hz.1, by unfold PySem.W.notCls; rw [hv] <;> rfl, by rw [hz.2, hd]; trivial⟩
        | some dd =>
          obtain ⟨fs, hx⟩ := hdd dd hd
          obtain ⟨mA, hns, _⟩ := (show ObjOk X.prog X.w H s.heap dd (.xd fs) from I.hok dd _ hx)
          obtain ⟨o, es, ep, ho, _⟩ := hns
          exact ⟨some o, hget, hz.1, by unfold PySem.W.notCls; rw [hv] <;> rfl, by rw [hz.2, hd]; exact ho⟩
      have hcl : (PySem.W.clsIn X.K D).isSome = true := by
        obtain ⟨cd, hc, _⟩ := PySem.W.any_some C.hd
        rw [hc]
        rfl
      exact PySem.W.kia_one (PySem.W.kitx_exc hcl C.hg C.hk C.hs C.ha C.hn C.ht C.hm) I.kIn J hk (fun z => nomatch z) fun tk => ⟨.bl b, H, I.kept (t' := tk) fun _ _ z => z, rfl, q⟩
theorem ev_isX {K : PySem.W.Frag} {σ : L2.St} {H : Hp} {a D : Addr} {d : Option Addr} {c : V} {cv : Value} {b : Bool} {ta tc : TE} (C : ExcC K D) (ha : Ev ta σ H (.ref a)) (hc : Ev tc σ H c) (hcv : ∀ u, RelV c u → u = cv) (hk : PySem.W.kitOne K (.ref D) cv = some b) (hdd : ∀ dd, d = some dd → ∃ fs, H dd = some (.xd fs)) :
    Ev (tCB (rIsX K a (.ref D) d) (tCons ta (tCons tc tNil))) σ H (.bl b) := fun H1 e Q q =>
  ha H1 e _ fun H2 e2 => hc H2 (e.trans e2) _ fun H3 e3 => ⟨D, c, cv, b, rfl, C, rfl, hcv, hk, fun dd z => by
    obtain ⟨fs, y⟩ := hdd dd z
    exact ⟨fs, ((e.trans e2).trans e3) _ _ y⟩, q H3 (e2.trans e3)⟩
/-- err.f -/
theorem ev_xf {σ : L2.St} {H : Hp} {a C dd : Addr} {f : PySem.Str} {v : V} {te : TE} (ha : Ev te σ H (.ref a)) (hd : H dd = some (.xd [(f, v)])) : Ev (tXf a (.ref C) (some dd) C f te) σ H v := fun H1 e Q q =>
  ha H1 e _ fun H2 e2 => ⟨rfl, rfl, dd, [(f, v)], v, rfl, (e.trans e2) _ _ hd, by simp [List.lookup], q H2 e2⟩
/-! ### a def called in an except suite -/
structure CalH (P : Program) (w : World) (K : PySem.W.Frag) (mg : PySem.Str → Option Value) (base : Heap) (k : Nat) (x : PySem.Str) (ps : List PySem.Str) (sp : Sp) : Prop where
  ex : ∃ f fd, L2H.FnH P w K mg base CX0 k f fd ps sp ∧ mg x = some (.ref f) ∧ PySem.W.keepIn K (.ref f) = true ∧ Binds K fd ps []
theorem pe_callHC {X : Cx} {k : Nat} {x : PySem.Str} {ps : List PySem.Str} {sp : Sp} {e : Expr} {es : List Expr} {t : TA} {p pos : Pos} (C : CalH X.prog X.w X.K X.mg X.base k x ps sp) (hr : L2H.RoomH k X.A) (hc : L2H.HotC X) (ha : PA X (e :: es) t) (hg : Gl X x := by rfl)
    (hdb : (x == ("__debug__" : PySem.Str)) = false := by decide) (h1 : starEach (e :: es) X.env = (false, eval e X.env) :: starEach es X.env := by rfl) (h2 : (backTo pos (starEach es X.env)).any (·.1) = false := by rfl) :
    PE X (.Call (.Name x p) (e :: es) [] pos) (tCallS sp (fun _ => E0) t) := by
  obtain ⟨f, fd, F, hm, kp, b⟩ := C.ex
  exact L2H.pe_callH F hr hc hg hm kp b (fun σ pins H s e s' I c => (show False from c).elim) ha hdb h1 h2
theorem ev_callS {sp : Sp} {E : L2.St → XK} {σ : L2.St} {H : Hp} {ta : TA} {vs : List V} {z : V} (h : EvA ta σ H vs) (hs : SpV sp vs H z) : Ev (tCallS sp E ta) σ H z := fun H1 e Q q =>
  h H1 e _ fun H2 e2 => hs H2 (e.trans e2) Q (fun H3 e3 => q H3 (e2.trans e3)) (E σ)
theorem hot_suite {X : Cx} {a : Addr} {oe : Obj} {pn : List (Addr × Obj)} {cls : Value} {d : Option Addr} (hz : L2N.Zn cls d oe) (hf : ∃ vs, oe.data = .fields vs) : L2H.HotC (X.suite a ((a, oe) :: pn)) := by
  obtain ⟨vs, hv⟩ := hf
  exact ⟨(a, oe), ⟨rfl, vs, hv, hz.2.2 vs hv⟩, List.mem_cons_self⟩
theorem roomH_suite {X : Cx} {a : Addr} {pn : List (Addr × Obj)} {k j : Nat} (hr : Room j X.A) (hk : k ≤ j) : L2H.RoomH k (X.suite a pn).A := L2H.RoomH.mono ⟨hr.dp, hr.un⟩ hk
section
variable {P : Program} {w : World} {K : PySem.W.Frag} {mg : PySem.Str → Option Value} {base : Heap}
theorem Def1.calH {x : PySem.Str} {st : Stmt} {N ps : List PySem.Str} {k : Nat} {sp : Sp} (D : Def1 K mg x st) (S : FnScope N ps (defScope st))
    (hb : ∀ (kV doc pm : Value) (an : Option Addr) (cdv ct : Value) (us : List Value), us.length = ps.length → bindArgs (PySem.W.fnOf x x (defArgs st) (defBody st) (defScope st) .none kV doc pm an cdv ct) ⟨us, []⟩ = pure (ps.zip us))
    (len : ∀ vs H Q E, sp vs H Q E → vs.length = ps.length)
    (hbody : ∀ (f : Addr) (cdv : Value) (A : Around) (outer : List Env) (s : Shared) (H : Hp) (vs : List V) (Q : VK) (E : XK) (p : Addr × Obj), L2H.Hot1 A p → L2H.RoomH k (A.deeper (envOfC x (defScope st) s.heap.objs.size f cdv)) → sp vs H Q E →
      ∃ t, PSs (L2H.cxH CX0 P w K mg base N x (defScope st) f cdv A outer s H E p) (defBody st) t ∧ t { nx := fun _ H' => Q .non H', rt := Q } (start N vs) H) : CalH P w K mg base (k + 1) x ps sp := by
  obtain ⟨f, fd, F, hm⟩ := D.ex
  obtain ⟨oc, od, dV, kV, doc, pm, an, cdv, ct, osl, hfd, lk, hcd, hD, hK⟩ := id F.ex
  refine ⟨f, fd, ?_, hm, F.kp, F.bindsN hb⟩
  subst hfd
  exact L2H.fn_ofH lk hcd S len fun A outer s H vs Q E p hot hr h => hbody f cdv A outer s H vs Q E p hot hr h
end
/-! ### the lambda that is called -/
/-- whoever calls it, its cells holding ws: it raises r -/
def LamRuns (P : Program) (w : World) (K : PySem.W.Frag) (mg : PySem.Str → Option Value) (base : Heap) (k : Nat) (F : LF) (fr : List PySem.Str) (ws : List (Option V)) (r : Rf) (Pre : Hp → Prop) : Prop :=
  ∀ (A : Around) (outer : List Env) (s : Shared) (H : Hp) (f : Addr) (Q : VK) (E : XK), Room k A → Env0 P w K mg base A outer s H → LamAt H f F → CellsAt F.cl fr ws s.heap H → Pre H → RaiseW K r H E → codeAny (model P w) A (.call (.ref f) ⟨[], []⟩) (CR (L2N.CX P w) outer P w H s Q E) s
def tWork (K : PySem.W.Frag) (i : Nat) (fl : Addr) (F : LF) (r : Rf) (W : WX) (Pre : Hp → Prop) : TE := fun σ H _ => σ[i]? = some (some (.ref fl)) ∧ LamAt H fl F ∧ Pre H ∧ RaiseW K r H (fun cls d H' => W cls d σ H')
theorem pe_work {X : Cx} {x : PySem.Str} {i k j : Nat} {p1 p2 : Pos} {W : WX} {F : LF} {fr : List PySem.Str} {ws : List (Option V)} {r : Rf} {fl : Addr} {Pre : Hp → Prop} (tk : L2N.Takes X W) (LR : LamRuns X.prog X.w X.K X.mg X.base k F fr ws r Pre) (hr : Room j X.A) (hk : k ≤ j) (C : CellsAt F.cl fr ws X.s_0.heap X.H_0) (hex : X.ex = []) (hN : X.N[i]? = some x) (hv : Vis X.env.scope x) (K : PySem.W.Frag) (hK : X.K = K)
    (hd : (x == ("__debug__" : PySem.Str)) = false := by decide) (hcd : (x == ("__classdict__" : PySem.Str)) = false := by decide) :
    PE X (.Call (.Name x p1) [] [] p2) (tWork K i fl F r W Pre) := by
  subst hK
  refine ⟨fun pins s σ H Q I h => ?_⟩
  obtain ⟨hs, l, hpre, hw⟩ := h
  refine wpAny_Call_Name_kw (thn ((pe_var (pos := p1) hN hv hd hcd).run pins s σ H (fun v H1 => v = .ref fl ∧ H1 = H) I ⟨.ref fl, hs, rfl, rfl⟩) fun u s1 hu => ?_)
  obtain ⟨v, H1, I1, rv, rfl, rfl⟩ := hu
  obtain rfl : u = Value.ref fl := rv
  obtain ⟨od, sl, doc, pm, ctv, ho⟩ := lam_at I1.hok l.fn
  refine PySem.W.callWith_F0 (first := []) ⟨_, od, _, sl, ho⟩ ?_
  show wpAny _ _ (call (.ref fl) []) _ _ _
  refine wpAny_call (codeAny_mono (LR X.A X.stack s1 H1 fl Q (fun cls d H' => W cls d σ H') (hr.mono hk) I1.env0 l (CellsAt.go C I1.base (by rw [hex]; simp)) hpre hw) fun rr s' hq => ?_)
  cases rr with
  | error e => exact L2N.passAt tk σ pins H1 s1 e s' I1 hq
  | ok fl' =>
    cases fl' with
    | ret u => exact I1.after hq
    | next => exact False.elim hq
    | brk => exact False.elim hq
    | cont => exact False.elim hq
/-! ### what a caught one tells -/
def Info (K : PySem.W.Frag) (r : Rf) (cls : Value) (d : Option Addr) (H : Hp) : Prop := ∃ (D : Addr) (b1 b2 b3 : Bool), cls = .ref D ∧ ErrC K D b1 b2 b3 ∧ [b1, b2, b3] = [decide (r.word = "pattern"), decide (r.word = "number"), decide (r.word = "none")] ∧ (∀ dd, d = some dd → ∃ fs, H dd = some (.xd fs)) ∧
  (∀ n, r = .pat n → D = cPt K ∧ ∃ dd, d = some dd ∧ H dd = some (.xd [("at", .int (n : Nat))])) ∧ ∀ n, r = .non n → D = cNo K ∧ ∃ dd, d = some dd ∧ H dd = some (.xd [("number", .int (n : Nat))])
theorem raise_all {K : PySem.W.Frag} {mg : PySem.Str → Option Value} {r : Rf} {H : Hp} {E : XK} (T : Errs K mg) (h : ∀ cls d H', Ex H H' → Info K r cls d H' → E cls d H') : RaiseW K r H E := by
  cases r with
  | pat n => exact fun d H' e hd h' => h _ _ H' e ⟨_, _, _, _, rfl, T.eP, (by show [true, false, false] = [decide (("pattern" : PySem.Str) = "pattern"), decide (("pattern" : PySem.Str) = "number"), decide (("pattern" : PySem.Str) = "none")]; decide +kernel), (fun dd z => ⟨_, by cases z; exact h'⟩), (fun m z => by cases z; exact ⟨rfl, d, rfl, h'⟩), (fun m z => nomatch z)⟩
  | num => exact fun H' e => h _ _ H' e ⟨_, _, _, _, rfl, T.eN, (by show [false, true, false] = [decide (("number" : PySem.Str) = "pattern"), decide (("number" : PySem.Str) = "number"), decide (("number" : PySem.Str) = "none")]; decide +kernel), (fun dd z => nomatch z), (fun m z => nomatch z), (fun m z => nomatch z)⟩
  | non n => exact fun d H' e hd h' => h _ _ H' e ⟨_, _, _, _, rfl, T.eO, (by show [false, false, true] = [decide (("none" : PySem.Str) = "pattern"), decide (("none" : PySem.Str) = "number"), decide (("none" : PySem.Str) = "none")]; decide +kernel), (fun dd z => ⟨_, by cases z; exact h'⟩), (fun m z => nomatch z), (fun m z => by cases z; exact ⟨rfl, d, rfl, h'⟩)⟩
theorem takesF {X : Cx} : L2N.Takes X (fun _ _ _ _ => False) := fun _ _ x => by
  obtain ⟨_, _, _, _, _, _, _, _, _, _, _, _, _, _, _, _, z⟩ := x
  exact z.elim
/-- the def that asks whether some work is refused, told of the very state -/
def RefRuns (P : Program) (w : World) (K : PySem.W.Frag) (mg : PySem.Str → Option Value) (base : Heap) (k j : Nat) (f : Addr) : Prop :=
  ∀ (A : Around) (outer : List Env) (s : Shared) (H : Hp) (us : List Value) (fl : Addr) (F : LF) (fr : List PySem.Str) (ws : List (Option V)) (r : Rf) (Pre : Hp → Prop) (Q : VK) (E : XK), Room k A → Env0 P w K mg base A outer s H → Vals [.ref fl, .str r.word, .int (r.val : Nat)] us → LamAt H fl F → Pre H → CellsAt F.cl fr ws s.heap H → LamRuns P w K mg base j F fr ws r Pre → RetV (.bl true) H Q →
    codeAny (model P w) A (.call (.ref f) ⟨us, []⟩) (CR CX0 outer P w H s Q E) s
theorem eqv_same {xs ys : List V} (h : xs = ys) (ok : xs.all okV = true) : PyData.eqv (.list (xs.map datV)) (.list (ys.map datV)) = true := by
  rw [← h]
  exact SeqAt.eqv_refl _ (show PyData.canLayAll0 (xs.map datV) = true from (lay_vs ok).1)
theorem shaped_vs {xs : List V} (ok : xs.all okV = true) : SeqAt.shaped (.list (xs.map datV)) = true := by
  obtain ⟨b1, b2⟩ := lay_vs ok
  unfold SeqAt.shaped
  rw [Bool.and_eq_true]
  refine ⟨b1, decide_eq_true ?_⟩
  show PyData.depthAll (xs.map datV) + 1 ≤ 64
  omega
end Bm
namespace Bm
open PySem PySem.Spec PyProof.Rows L2 Evl
/-! ### what cannot be a pattern -/
theorem fault_is {cs : List Nat} {n : Nat} (hn : n < cs.length) (hlo : ∀ i, i < n → i < 12 ∧ (cs.getD i 0 = 49 ∨ cs.getD i 0 = 48)) (hb : 12 ≤ n ∨ (cs.getD n 0 ≠ 49 ∧ cs.getD n 0 ≠ 48)) : fault cs = some n := by
  unfold fault
  have h : (List.range cs.length).find? (fun i => badAt (cs.getD i 0) i) = some n := find_range_is hn (by
    unfold badAt
    rw [Bool.or_eq_true]
    rcases hb with h | ⟨h1, h2⟩
    · exact .inl (decide_eq_true h)
    · right
      rw [Bool.not_eq_true', Bool.or_eq_false_iff]
      exact ⟨by simpa using h1, by simpa using h2⟩) (fun i hi => by
    obtain ⟨h1, h2⟩ := hlo i hi
    unfold badAt
    rw [decide_eq_false (by omega), Bool.false_or, Bool.not_eq_false', Bool.or_eq_true]
    rcases h2 with h | h
    · exact .inl (by simpa using h)
    · exact .inr (by simpa using h))
  rw [h]
theorem fault_zeros {n : Nat} (hn : n ≤ 12) : fault (List.replicate n 48) = some n := by
  unfold fault
  have h : (List.range (List.replicate n 48).length).find? (fun i => badAt ((List.replicate n 48).getD i 0) i) = none := find_range_no fun i hi => by
    rw [List.length_replicate] at hi
    have e : (List.replicate n 48).getD i 0 = 48 := by
      rw [List.getD_eq_getElem?_getD, List.getElem?_replicate, if_pos hi]
      rfl
    rw [e]
    unfold badAt
    rw [decide_eq_false (by omega)]
    rfl
  rw [h]
  show (if 49 ∈ List.replicate n 48 then none else some (List.replicate n 48).length) = some n
  rw [if_neg (fun z => by have := List.eq_of_mem_replicate z; omega), List.length_replicate]
theorem sg_is (b : Bool) : sg b = 49 ∨ sg b = 48 := by
  cases b
  · exact .inr rfl
  · exact .inl rfl
theorem getD_sg {p : List Bool} {i : Nat} (h : i < p.length) : (p.map sg).getD i 0 = sg (p.getD i false) := by
  rw [List.getD_eq_getElem?_getD, txt_at h]
  rfl
theorem getD_app_l {α : Type} {a b : List α} {i : Nat} {d : α} (h : i < a.length) : (a ++ b).getD i d = a.getD i d := by
  rw [List.getD_eq_getElem?_getD, List.getElem?_append_left h, List.getD_eq_getElem?_getD]
/-- more than twelve beats -/
theorem fault_long {p : List Bool} {r : List Nat} (h : 13 ≤ p.length) : fault (p.map sg ++ r) = some 12 := by
  refine fault_is (by rw [List.length_append, List.length_map]; omega) (fun i hi => ⟨hi, ?_⟩) (.inl (Nat.le_refl _))
  rw [getD_app_l (by rw [List.length_map]; omega), getD_sg (by omega)]
  exact sg_is _
/-- another sign -/
theorem fault_sign {p : List Bool} {c n : Nat} {r : List Nat} (hn : n ≤ p.length) (hp : p.length ≤ 12) (hc : c ≠ 49 ∧ c ≠ 48) : fault ((p.take n).map sg ++ c :: r) = some n := by
  have hl : ((p.take n).map sg).length = n := by
    rw [List.length_map, List.length_take]
    omega
  refine fault_is (by rw [List.length_append, hl]; simp) (fun i hi => ⟨by omega, ?_⟩) (.inr ?_)
  · rw [getD_app_l (by omega), getD_sg (by rw [List.length_take]; omega)]
    exact sg_is _
  · have e : ((p.take n).map sg ++ c :: r).getD n 0 = c := by
      rw [List.getD_eq_getElem?_getD, List.getElem?_append_right (by omega), hl, Nat.sub_self]
      rfl
    rw [e]
    exact hc
theorem odd_signs (r : Nat) (h : r < 7) : ∃ c, atI (("2x _-O!" : PySem.Str)).cps.toList ((r : Nat) : Int) = some c ∧ c ≠ 49 ∧ c ≠ 48 := by
  match r, h with
  | 0, _ => exact ⟨50, by decide +kernel, by decide, by decide⟩
  | 1, _ => exact ⟨120, by decide +kernel, by decide, by decide⟩
  | 2, _ => exact ⟨32, by decide +kernel, by decide, by decide⟩
  | 3, _ => exact ⟨95, by decide +kernel, by decide, by decide⟩
  | 4, _ => exact ⟨45, by decide +kernel, by decide, by decide⟩
  | 5, _ => exact ⟨79, by decide +kernel, by decide, by decide⟩
  | 6, _ => exact ⟨33, by decide +kernel, by decide, by decide⟩
theorem two_signs (r : Nat) (h : r < 2) : atI (("01" : PySem.Str)).cps.toList ((r : Nat) : Int) = some (sg (decide (r = 1))) := by
  match r, h with
  | 0, _ => decide +kernel
  | 1, _ => decide +kernel
theorem app_codes (a b : PySem.Str) : (a ++ b).cps.toList = a.cps.toList ++ b.cps.toList := by
  show (a.cps ++ b.cps).toList = _
  exact Array.toList_append ..
theorem app_len (a b : PySem.Str) : (a ++ b).length = a.length + b.length := by
  show (a.cps ++ b.cps).size = _
  exact Array.size_append ..
theorem ev_addZ {σ : L2.St} {H : Hp} {ta tb : TE} {a b : PySem.Str} (ha : Ev ta σ H (.str a)) (hb : Ev tb σ H (.str b)) (hz : a.length + b.length ≤ 1000) : Ev (tOp rAddS ta tb) σ H (.str (a ++ b)) :=
  ev_op ha hb fun H1 _ _ q => ⟨a, b, rfl, rfl, szl hz, q H1 (Ex.refl H1)⟩
end Bm
namespace Bm
open PySem PySem.Spec PyProof.Rows L2 Evl LamX NdefX
/-! ### works: lambdas that raise r, called where their cells hold what the slots σ tell -/
def WorkAt (X : Cx) (σ : L2.St) (H : Hp) (r : Rf) (v : V) : Prop := ∃ (fl : Addr) (F : LF) (fr : List PySem.Str) (js : List Nat), v = .ref fl ∧ LamAt H fl F ∧ (X.Ok → Caps X F.cl fr js) ∧ LamRuns X.prog X.w X.K X.mg X.base 5 F fr (js.map (slotAt σ)) r (fun _ => True)
/-- the same, if Pre -/
def WorkP (X : Cx) (σ : L2.St) (H : Hp) (r : Rf) (v : V) : Prop := ∃ (fl : Addr) (F : LF) (fr : List PySem.Str) (js : List Nat) (Pre : Hp → Prop), v = .ref fl ∧ LamAt H fl F ∧ Pre H ∧ (X.Ok → Caps X F.cl fr js) ∧ LamRuns X.prog X.w X.K X.mg X.base 5 F fr (js.map (slotAt σ)) r Pre
theorem WorkAt.p {X : Cx} {σ : L2.St} {H : Hp} {r : Rf} {v : V} (h : WorkAt X σ H r v) : WorkP X σ H r v := by
  obtain ⟨fl, F, fr, js, h1, h2, h3, h4⟩ := h
  exact ⟨fl, F, fr, js, _, h1, h2, True.intro, h3, h4⟩
theorem WorkAt.up {X : Cx} {σ : L2.St} {H H' : Hp} {r : Rf} {v : V} (h : WorkAt X σ H r v) (e : Ex H H') : WorkAt X σ H' r v := by
  obtain ⟨fl, F, fr, js, h1, h2, h3⟩ := h
  exact ⟨fl, F, fr, js, h1, h2.up e, h3⟩
/-- what is known of the def that asks -/
structure Ref (P : Program) (w : World) (K : PySem.W.Frag) (mg : PySem.Str → Option Value) (base : Heap) : Prop where
  ex : ∃ f fd, mg "_law_refused" = some (.ref f) ∧ PySem.W.keepIn K (.ref f) = true ∧ Binds K fd ["_law_work", "_law_word", "_law_value"] [] ∧ RefRuns P w K mg base 6 5 f
def tRefB (X : Cx) (σ0 : L2.St) (ta : TA) : TE := fun σ H Q => ta σ H fun vs H1 => ∃ (r : Rf) (v : V), vs = [v, .str r.word, .int (r.val : Nat)] ∧ WorkP X σ0 H1 r v ∧ RetV (.bl true) H1 Q
section
variable {X : Cx} {e : Expr} {es : List Expr} {ta : TA} {p pos : Pos}
theorem pe_refB {pins0 : List (Addr × Obj)} {σ0 : L2.St} {s0 : Shared} {H0 : Hp} {scope : Scope} {ce : Env} {fp : List Addr} (R : Ref X.prog X.w X.K X.mg X.base) (hr : Room 6 X.A) (I0 : Inv X pins0 σ0 H0 s0) (hfp : ∀ b ∈ fp, FpOk X pins0 H0 b) (ha : PA (X.blk s0 H0 scope ce fp) (e :: es) ta) (hg : Gl (X.blk s0 H0 scope ce fp) "_law_refused" := by rfl)
    (h1 : starEach (e :: es) ce = (false, eval e ce) :: starEach es ce := by rfl) (h2 : (backTo pos (starEach es ce)).any (·.1) = false := by rfl) :
    PE (X.blk s0 H0 scope ce fp) (.Call (.Name "_law_refused" p) (e :: es) [] pos) (tRefB X σ0 ta) := by
  obtain ⟨f, fd, hm, kp, hb, RR⟩ := R.ex
  refine ⟨fun pins s σ H Q I h => wpAny_Call_Name_kw (ld_glob I hg hm (PySem.W.callWith_K (h₀ := X.base) I.ok.mod.kin kp (thn (ha.run pos pins s σ H _ I h) fun us s1 hh => ?_) h1 h2) (by decide))⟩
  obtain ⟨vs, H1, I1, rv, r, v, rfl, ⟨fl, F, fr, js, Pre, rfl, l, hpre, cp, LR⟩, k⟩ := hh
  refine ⟨I1.kIn, ?_⟩
  show wpAny _ _ (call (.ref f) us) _ _ _
  have cap := cp I0.ok
  have C := CellsAt.go (cells_of I0 cap) I1.base fun y c z hc => (hfp c hc).2.2.2.2.1 y c (cap.sub y c z) rfl
  refine wpAny_call (codeAny_mono (RR X.A X.stack s1 H1 us fl F fr _ r Pre Q E0 hr I1.env0 rv l hpre C LR k) fun rr s' hq => ?_)
  cases rr with
  | error e => exact (show False from hq).elim
  | ok fl' =>
    cases fl' with
    | ret u => exact I1.after hq
    | next => exact False.elim hq
    | brk => exact False.elim hq
    | cont => exact False.elim hq
theorem pe_refX (R : Ref X.prog X.w X.K X.mg X.base) (hr : Room 6 X.A) (ha : PA X (e :: es) ta) (hg : Gl X "_law_refused" := by rfl) (h1 : starEach (e :: es) X.env = (false, eval e X.env) :: starEach es X.env := by rfl) (h2 : (backTo pos (starEach es X.env)).any (·.1) = false := by rfl) :
    PE X (.Call (.Name "_law_refused" p) (e :: es) [] pos) (fun σ H Q => tRefB X σ ta σ H Q) := by
  obtain ⟨f, fd, hm, kp, hb, RR⟩ := R.ex
  refine ⟨fun pins s σ H Q I h => wpAny_Call_Name_kw (ld_glob I hg hm (PySem.W.callWith_K (h₀ := X.base) I.ok.mod.kin kp (thn (ha.run pos pins s σ H _ I h) fun us s1 hh => ?_) h1 h2) (by decide))⟩
  obtain ⟨vs, H1, I1, rv, r, v, rfl, ⟨fl, F, fr, js, Pre, rfl, l, hpre, cp, LR⟩, k⟩ := hh
  refine ⟨I1.kIn, ?_⟩
  show wpAny _ _ (call (.ref f) us) _ _ _
  refine wpAny_call (codeAny_mono (RR X.A X.stack s1 H1 us fl F fr _ r Pre Q E0 hr I1.env0 rv l hpre (cells_of I1 (cp I1.ok)) LR k) fun rr s' hq => ?_)
  cases rr with
  | error e => exact (show False from hq).elim
  | ok fl' =>
    cases fl' with
    | ret u => exact I1.after hq
    | next => exact False.elim hq
    | brk => exact False.elim hq
    | cont => exact False.elim hq
end
/-- [w for w in works if not refused(w, word, value)] != [] is False -/
theorem ev_works {X : Cx} {K : PySem.W.Frag} {σ : L2.St} {H : Hp} {WL : Addr} {xs : List V} {r : Rf} {i j : Nat} {tb tc : TE} (hi : σ[i]? = some (some (.ref WL))) (hW : H WL = some (.lst xs)) (hz : xs.length ≤ 100) (hw : ∀ x, wipe ((wipe σ [j]).set j (some x)) [j] = wipe σ [j]) (hj : ∀ x, ((wipe σ [j]).set j (some x))[j]? = some (some x))
    (hb : ∀ x H1, Ev tb ((wipe σ [j]).set j (some x)) H1 (.str r.word)) (hc : ∀ x H1, Ev tc ((wipe σ [j]).set j (some x)) H1 (.int (r.val : Nat))) (hv : ∀ v ∈ xs, WorkAt X σ H r v) :
    Ev (tOp (rNeD K) (tLcT K (tVar i) (gName j) (fun σ0 => tNot (tB (tRefB X σ0 (tCons (tVar j) (tCons tb (tCons tc tNil)))))) (tVar j) [j]) (tLst tNil)) σ H (.bl false) := fun H0 e0 Q q => by
  refine ⟨.ref WL, hi, WL, rfl, ⟨xs, sq_of (e0 _ _ hW)⟩, fun Dl hD => lc_list (xs := xs) (fun m H' => Ex H0 H' ∧ H' Dl = some (.lst [])) ⟨Ex.new hD, upd_same⟩ (fun m H' _ pr => sq_of ((e0.trans pr.1) _ _ hW)) (fun m x H' hx pr => ⟨hw x, ?_⟩) (fun H' pr => ?_)⟩
  · refine ⟨x, hj x, hb x H' H' (Ex.refl H') _ fun H2 e2 => hc x H2 H2 (Ex.refl H2) _ fun H3 e3 => ⟨r, x, rfl, ((hv x (List.mem_of_getElem? hx)).up (((e0.trans pr.1).trans e2).trans e3)).p, fun H4 e4 => ⟨true, rfl, iteF ⟨((pr.1.trans e2).trans e3).trans e4, ((e2.trans e3).trans e4) _ _ pr.2⟩⟩⟩⟩
  · refine ⟨Nat.zero_le _, fun l hl => ⟨_, _, .lst (sq_of (by rw [upd_ne (ne_of_none pr.2 hl)]; exact pr.2)) .nil, .lst (sq_of upd_same) .nil, rfl, rfl, ?_⟩⟩
    exact q _ (pr.1.trans (Ex.new hl))
/-! ### what stands all along: the dice, the table of the law's code objects -/
structure Basis (D P : Addr) (q : PySem.Str) (H : Hp) : Prop where
  d : ∃ ds : List Int, 2 ≤ ds.length ∧ H D = some (.lst (ds.map V.int))
  t : TabS H P q
section
variable {D P : Addr} {q : PySem.Str} {H H' : Hp}
theorem Basis.up (b : Basis D P q H) (e : Ex H H') : Basis D P q H' := by
  obtain ⟨ds, h1, h2⟩ := b.d
  exact ⟨⟨ds, h1, e _ _ h2⟩, b.t.ext e⟩
theorem Basis.ext (b : Basis D P q H) (e : ExtN H H') (t : TabS H' P q) : Basis D P q H' := by
  obtain ⟨ds, h1, h2⟩ := b.d
  exact ⟨⟨ds, h1, e _ _ h2 fun ps z => by cases z⟩, t⟩
theorem Basis.dd (b : Basis D P q H) : DD D (off_ H D) H := ⟨by unfold off_; rw [if_pos rfl], fun a o z => by
  unfold off_ at z
  split at z
  · cases z
  · exact z, b.d⟩
theorem off_in {x : Addr} {o : HO} (hx : x ≠ D) (h : H x = some o) : off_ H D x = some o := by
  unfold off_
  rw [if_neg hx]
  exact h
theorem Basis.off (b : Basis D P q H) : TabS (off_ H D) P q := by
  obtain ⟨ds, _, hD⟩ := b.d
  obtain ⟨ps, h1, h2, h3⟩ := b.t
  refine ⟨ps, off_in (fun z => by rw [z, hD] at h1; cases h1) h1, h2, fun pos cv hc => ?_⟩
  obtain ⟨c, z1, z2⟩ := h3 pos cv hc
  exact ⟨c, z1, off_in (fun z => by rw [z, hD] at z2; unfold CodeO at z2; cases z2) z2⟩
theorem Basis.after (b : Basis D P q H) (d : DD D (off_ H D) H') : Basis D P q H' := ⟨d.at_, b.off.ext d.ex⟩
theorem LamAt.off {f : Addr} {F : LF} (l : LamAt H f F) (b : Basis D P q H) : LamAt (off_ H D) f F := by
  obtain ⟨ds, _, hD⟩ := b.d
  exact ⟨off_in (fun z => by have := l.fn; rw [z, hD] at this; unfold LamO at this; cases this) l.fn, off_in (fun z => by have := l.cd; rw [z, hD] at this; unfold CodeO at this; cases this) l.cd, fun T y => off_in (fun z => by have := l.df T y; rw [z, hD] at this; cases this) (l.df T y)⟩
theorem extN_lst {a : Addr} {xs : List V} (e : ExtN H H') (h : H a = some (.lst xs)) : H' a = some (.lst xs) := e _ _ h fun ps z => by cases z
/-- a lambda among what is evaluated -/
theorem r_lamC {b : Bool} {mk : Addr → Option Addr → LF} {tr : TA} {σ : L2.St} {Q : List V → Hp → Prop} (B : Basis D P q H) (k : ∀ (f c' : Addr) (dfl : Option Addr) (H1 : Hp), ExtN H H1 → Basis D P q H1 → dfl.isSome = b → LamAt H1 f (mk c' dfl) → tr σ H1 fun xs H2 => Q (.ref f :: xs) H2) : tCons (tLamM P q b mk) tr σ H Q :=
  ⟨B.t, fun f c' dfl H1 eN T1 nf hd l => k f c' dfl H1 eN (B.ext eN T1) hd l⟩
end
theorem work_of {X : Cx} {σ : L2.St} {H : Hp} {r : Rf} {f c' : Addr} {params : Arguments} {body : Expr} {scope : Scope} {dfl : Option Addr} {ps fr : List PySem.Str} {js : List Nat} {t : XK → TE} (N : List PySem.Str)
    (l : LamAt H f ⟨X.env.qual ++ "<lambda>", params, body, scope, cloFrom X.env.cells scope.names [], c', dfl⟩) (hB : ndefB X.env.scope scope fr = true) (hjs : js.map (fun j => X.N[j]?) = fr.map some) (hS : nscB N ps fr scope = true)
    (hb0 : dfl = none → ps = [] ∧ ∀ doc pm ctv : Value, bindArgs (LF.fd ⟨X.env.qual ++ "<lambda>", params, body, scope, cloFrom X.env.cells scope.names [], c', dfl⟩ doc pm ctv) ⟨[], []⟩ = pure [])
    (hb1 : ∀ T, dfl = some T → ps.length = 1 ∧ ∀ doc pm ctv u : Value, ∃ k, bindArgs (LF.fd ⟨X.env.qual ++ "<lambda>", params, body, scope, cloFrom X.env.cells scope.names [], c', dfl⟩ doc pm ctv) ⟨[], []⟩ = seqItems? (LF.fd ⟨X.env.qual ++ "<lambda>", params, body, scope, cloFrom X.env.cells scope.names [], c', dfl⟩ doc pm ctv).defaults >>= k ∧ k (some [u].toArray) = pure (ps.zip [u]))
    (hbody : ∀ (A : Around) (outer : List Env) (s : Shared) (H : Hp) (g : Addr) (E : XK), Room 4 (A.deeper (envF (LF.nf ⟨X.env.qual ++ "<lambda>", params, body, scope, cloFrom X.env.cells scope.names [], c', dfl⟩) g s.heap.objs.size)) →
      PE (ncx (L2N.CX X.prog X.w) X.prog X.w X.K X.mg X.base N (LF.nf ⟨X.env.qual ++ "<lambda>", params, body, scope, cloFrom X.env.cells scope.names [], c', dfl⟩) g A outer s H E) body (t E))
    (ht : ∀ (H : Hp) (E : XK) (Q : VK) (vs : List V), vs.length = ps.length → RaiseW X.K r H E → t E (startF N vs (js.map (slotAt σ))) H Q) : WorkAt X σ H r (.ref f) := by
  refine ⟨f, _, fr, js, rfl, l, fun ok => Caps.made ok (ndef_free hB) (ndef_fr hB) hjs, fun A outer s H2 g Q E hr e0 l2 C _ hw => ?_⟩
  exact lam_run (N := N) (nscope_by hS) l2 hb0 hb1 hr e0 C (fun hr' => hbody A outer s H2 g E hr') fun vs hvs => ht H2 E Q vs hvs hw
theorem work_0 {X : Cx} {σ : L2.St} {H : Hp} {r : Rf} {f c' : Addr} {params : Arguments} {body : Expr} {scope : Scope} {dfl : Option Addr} {fr : List PySem.Str} {js : List Nat} {t : XK → TE} (N : List PySem.Str) (hd : dfl.isSome = false)
    (l : LamAt H f ⟨X.env.qual ++ "<lambda>", params, body, scope, cloFrom X.env.cells scope.names [], c', dfl⟩) {sc : Scope} (hsc : X.env.scope = sc) (hB : ndefB sc scope fr = true) (hjs : js.map (fun j => X.N[j]?) = fr.map some) (hS : nscB N [] fr scope = true)
    (hb : ∀ doc pm ctv : Value, bindArgs (LF.fd ⟨X.env.qual ++ "<lambda>", params, body, scope, cloFrom X.env.cells scope.names [], c', none⟩ doc pm ctv) ⟨[], []⟩ = pure [])
    (hbody : ∀ (dfl : Option Addr) (A : Around) (outer : List Env) (s : Shared) (H : Hp) (g : Addr) (E : XK), Room 4 (A.deeper (envF (LF.nf ⟨X.env.qual ++ "<lambda>", params, body, scope, cloFrom X.env.cells scope.names [], c', dfl⟩) g s.heap.objs.size)) →
      PE (ncx (L2N.CX X.prog X.w) X.prog X.w X.K X.mg X.base N (LF.nf ⟨X.env.qual ++ "<lambda>", params, body, scope, cloFrom X.env.cells scope.names [], c', dfl⟩) g A outer s H E) body (t E))
    (ht : ∀ (H : Hp) (E : XK) (Q : VK), RaiseW X.K r H E → t E (startF N [] (js.map (slotAt σ))) H Q) : WorkAt X σ H r (.ref f) := by
  cases dfl with
  | some T => cases hd
  | none => exact work_of (ps := []) N l (by rw [hsc]; exact hB) hjs hS (fun _ => ⟨rfl, hb⟩) (fun T z => nomatch z) (hbody none) (fun H E Q vs hv hw => by
      cases vs with
      | nil => exact ht H E Q hw
      | cons _ _ => cases hv)
theorem work_D {X : Cx} {σ : L2.St} {H : Hp} {r : Rf} {f c' : Addr} {params : Arguments} {body : Expr} {scope : Scope} {dfl : Option Addr} {fr : List PySem.Str} {js : List Nat} {t : XK → TE} {y : PySem.Str} (N : List PySem.Str) (hd : dfl.isSome = true)
    (l : LamAt H f ⟨X.env.qual ++ "<lambda>", params, body, scope, cloFrom X.env.cells scope.names [], c', dfl⟩) {sc : Scope} (hsc : X.env.scope = sc) (hB : ndefB sc scope fr = true) (hjs : js.map (fun j => X.N[j]?) = fr.map some) (hS : nscB N [y] fr scope = true)
    (hb : ∀ (T : Addr) (doc pm ctv u : Value), ∃ k, bindArgs (LF.fd ⟨X.env.qual ++ "<lambda>", params, body, scope, cloFrom X.env.cells scope.names [], c', some T⟩ doc pm ctv) ⟨[], []⟩ = seqItems? (LF.fd ⟨X.env.qual ++ "<lambda>", params, body, scope, cloFrom X.env.cells scope.names [], c', some T⟩ doc pm ctv).defaults >>= k ∧ k (some [u].toArray) = pure (List.zip [y] [u]))
    (hbody : ∀ (dfl : Option Addr) (A : Around) (outer : List Env) (s : Shared) (H : Hp) (g : Addr) (E : XK), Room 4 (A.deeper (envF (LF.nf ⟨X.env.qual ++ "<lambda>", params, body, scope, cloFrom X.env.cells scope.names [], c', dfl⟩) g s.heap.objs.size)) →
      PE (ncx (L2N.CX X.prog X.w) X.prog X.w X.K X.mg X.base N (LF.nf ⟨X.env.qual ++ "<lambda>", params, body, scope, cloFrom X.env.cells scope.names [], c', dfl⟩) g A outer s H E) body (t E))
    (ht : ∀ (H : Hp) (E : XK) (Q : VK) (v : V), RaiseW X.K r H E → t E (startF N [v] (js.map (slotAt σ))) H Q) : WorkAt X σ H r (.ref f) := by
  cases dfl with
  | none => cases hd
  | some T => exact work_of (ps := [y]) N l (by rw [hsc]; exact hB) hjs hS (fun z => nomatch z) (fun T' z => ⟨rfl, hb T⟩) (hbody (some T)) (fun H E Q vs hv hw => by
      match vs, hv with
      | [v], _ => exact ht H E Q v hw)
/-- no parameter, what it needs of the heap told -/
theorem work_P {X : Cx} {σ : L2.St} {H : Hp} {r : Rf} {f c' : Addr} {params : Arguments} {body : Expr} {scope : Scope} {dfl : Option Addr} {fr : List PySem.Str} {js : List Nat} {t : XK → TE} {Pre : Hp → Prop} (N : List PySem.Str) (hd : dfl.isSome = false) (hpre : Pre H)
    (l : LamAt H f ⟨X.env.qual ++ "<lambda>", params, body, scope, cloFrom X.env.cells scope.names [], c', dfl⟩) {sc : Scope} (hsc : X.env.scope = sc) (hB : ndefB sc scope fr = true) (hjs : js.map (fun j => X.N[j]?) = fr.map some) (hS : nscB N [] fr scope = true)
    (hb : ∀ doc pm ctv : Value, bindArgs (LF.fd ⟨X.env.qual ++ "<lambda>", params, body, scope, cloFrom X.env.cells scope.names [], c', none⟩ doc pm ctv) ⟨[], []⟩ = pure [])
    (hbody : ∀ (dfl : Option Addr) (A : Around) (outer : List Env) (s : Shared) (H : Hp) (g : Addr) (E : XK), Room 4 (A.deeper (envF (LF.nf ⟨X.env.qual ++ "<lambda>", params, body, scope, cloFrom X.env.cells scope.names [], c', dfl⟩) g s.heap.objs.size)) →
      PE (ncx (L2N.CX X.prog X.w) X.prog X.w X.K X.mg X.base N (LF.nf ⟨X.env.qual ++ "<lambda>", params, body, scope, cloFrom X.env.cells scope.names [], c', dfl⟩) g A outer s H E) body (t E))
    (ht : ∀ (H : Hp) (E : XK) (Q : VK), Pre H → RaiseW X.K r H E → t E (startF N [] (js.map (slotAt σ))) H Q) : WorkP X σ H r (.ref f) := by
  rw [← hsc] at hB
  cases dfl with
  | some T => cases hd
  | none =>
    refine ⟨f, _, fr, js, Pre, rfl, l, hpre, fun ok => Caps.made ok (ndef_free hB) (ndef_fr hB) hjs, fun A outer s H2 g Q E hr e0 l2 C hp2 hw => ?_⟩
    refine lam_run (N := N) (ps := []) (nscope_by hS) l2 (fun _ => ⟨rfl, hb⟩) (fun T z => nomatch z) hr e0 C (fun hr' => hbody none A outer s H2 g E hr') fun vs hvs => ?_
    cases vs with
    | nil => exact ht H2 E Q hp2 hw
    | cons _ _ => cases hvs
section
variable {P : Program} {w : World} {K : PySem.W.Frag} {mg : PySem.Str → Option Value} {base : Heap}
/-- a def of the text, its code object told -/
theorem Def1.calT {x : PySem.Str} {st : Stmt} {N ps : List PySem.Str} {k : Nat} {sp : Sp} (D : Def1 K mg x st) (S : FnScope N ps (defScope st))
    (hb : ∀ (kV doc pm : Value) (an : Option Addr) (cdv ct : Value) (us : List Value), us.length = ps.length → bindArgs (PySem.W.fnOf x x (defArgs st) (defBody st) (defScope st) .none kV doc pm an cdv ct) ⟨us, []⟩ = pure (ps.zip us))
    (len : ∀ vs H Q E, sp vs H Q E → vs.length = ps.length)
    (hbody : ∀ (f : Addr) (cdv : Value), (∃ (oc : Value) (od : Option Addr) (osl : Array (Option Value)) (fd : FuncData), K.lookup f = some ⟨oc, od, .func fd, osl⟩ ∧ fd.code = cdv ∧ PySem.W.codeIn K cdv x = true) → mg x = some (.ref f) → ∀ (A : Around) (outer : List Env) (s : Shared) (H : Hp) (vs : List V) (Q : VK) (E : XK), Room k (A.deeper (envOfC x (defScope st) s.heap.objs.size f cdv)) → sp vs H Q E →
      ∃ t, PSs (cxOf CX0 P w K mg base N x (defScope st) f cdv A outer s H E).nox (defBody st) t ∧ t { nx := fun _ H' => Q .non H', rt := Q } (start N vs) H) : Cal P w K mg base (k + 1) x ps sp := by
  obtain ⟨f, fd, F, hm⟩ := D.ex
  obtain ⟨oc, od, dV, kV, doc, pm, an, cdv, ct, osl, hfd, lk, hcd, _, _⟩ := id F.ex
  subst hfd
  refine ⟨f, _, fn_of lk hcd S len fun A outer s H vs Q E hr h => ?_, hm, F.kp, F.bindsN hb, oc, od, osl, lk⟩
  obtain ⟨t, h1, h2⟩ := hbody f cdv ⟨oc, od, osl, _, lk, rfl, hcd⟩ hm A outer s H vs Q E hr h
  exact ⟨t, PSs.nox h1, h2⟩
end
end Bm
namespace Bm
open PySem PySem.Spec PyProof.Rows L2 Evl LamX NdefX
/-! ### what lambdas need stays though lists and tables change -/
def ExtL (H H' : Hp) : Prop := ∀ a o, H a = some o → (∀ ps, o ≠ .tbl ps) → (∀ xs, o ≠ .lst xs) → H' a = some o
section
variable {D P : Addr} {q : PySem.Str} {H H' H2 : Hp}
theorem ExtL.of (e : ExtN H H') : ExtL H H' := fun a o h n _ => e a o h n
theorem ExtL.ex (e : Ex H H') : ExtL H H' := fun a o h _ _ => e a o h
theorem ExtL.trans (e : ExtL H H') (e2 : ExtL H' H2) : ExtL H H2 := fun a o h n m => e2 a o (e a o h n m) n m
theorem ExtL.set {a : Addr} {xs ys : List V} (h : H a = some (.lst xs)) : ExtL H (upd H a (.lst ys)) := fun b o hb n m => by
  have : b ≠ a := fun z => by
    rw [z, h] at hb
    cases hb
    exact m xs rfl
  rw [upd_ne this]
  exact hb
theorem LamAt.extL {f : Addr} {F : LF} (l : LamAt H f F) (e : ExtL H H') : LamAt H' f F :=
  ⟨e _ _ l.fn lamO_tbl (fun xs z => by unfold LamO at z; cases z), e _ _ l.cd codeO_ne (fun xs z => by unfold CodeO at z; cases z), fun T z => e _ _ (l.df T z) (fun ps y => by cases y) (fun ps y => by cases y)⟩
theorem WorkAt.extL {X : Cx} {σ : L2.St} {r : Rf} {v : V} (h : WorkAt X σ H r v) (e : ExtL H H') : WorkAt X σ H' r v := by
  obtain ⟨fl, F, fr, js, h1, h2, h3⟩ := h
  exact ⟨fl, F, fr, js, h1, h2.extL e, h3⟩
theorem Basis.set (b : Basis D P q H) {a : Addr} {xs ys : List V} (hn : a ≠ D) (h : H a = some (.lst xs)) : Basis D P q (upd H a (.lst ys)) := by
  obtain ⟨ds, h1, h2⟩ := b.d
  obtain ⟨ps, z1, z2, z3⟩ := b.t
  have np : P ≠ a := fun z => by
    rw [z, h] at z1
    cases z1
  refine ⟨⟨ds, h1, by rw [upd_ne (Ne.symm hn)]; exact h2⟩, ps, by rw [upd_ne np]; exact z1, z2, fun pos cv hc => ?_⟩
  obtain ⟨c, y1, y2⟩ := z3 pos cv hc
  have nc : c ≠ a := fun z => by
    rw [z, h] at y2
    unfold CodeO at y2
    cases y2
  exact ⟨c, y1, by rw [upd_ne nc]; exact y2⟩
theorem Basis.drawn (b : Basis D P q H) (d : DD D (off_ H D) H') : ExtL H H' := fun a o h n m => by
  obtain ⟨ds, _, hD⟩ := b.d
  refine d.ex _ _ (off_in (fun z => ?_) h)
  rw [z, hD] at h
  cases h
  exact m _ rfl
theorem Basis.ne (b : Basis D P q H) {a : Addr} (h : H a = none) : a ≠ D := by
  obtain ⟨ds, _, hD⟩ := b.d
  exact (ne_of_none hD h).symm
end
/-! ### works made of lambdas -/
def MkW (D P : Addr) (q : PySem.Str) (W : Hp → V → Prop) (m : Nat) (ta : TA) (σ : L2.St) : Prop := ∀ (H : Hp) (Q : List V → Hp → Prop), Basis D P q H → (∀ vs H1, ExtN H H1 → Basis D P q H1 → (∀ v ∈ vs, W H1 v) → vs.length = m → Q vs H1) → ta σ H Q
section
variable {D P : Addr} {q : PySem.Str} {H : Hp} {W : Hp → V → Prop} {m n i : Nat} {ta : TA} {tz : TS} {σ : L2.St} {En : Ends}
theorem mk_nil : MkW D P q W 0 tNil σ := fun H Q B k => k [] H (ExtN.refl H) B (fun v z => nomatch z) rfl
theorem mk_cons {b : Bool} {mk : Addr → Option Addr → LF} (hW : ∀ H H' v, ExtL H H' → W H v → W H' v) (h : ∀ (f c' : Addr) (dfl : Option Addr) (H1 : Hp), dfl.isSome = b → LamAt H1 f (mk c' dfl) → W H1 (.ref f)) (r : MkW D P q W m ta σ) : MkW D P q W (m + 1) (tCons (tLamM P q b mk) ta) σ := fun H Q B k =>
  r_lamC B fun f c' dfl H1 e1 B1 hd l => r H1 _ B1 fun vs H2 e2 B2 hv hl => k (.ref f :: vs) H2 (e1.trans e2) B2 (fun v z => by
    rcases List.mem_cons.mp z with z | z
    · rw [z]
      exact hW _ _ _ (ExtL.of e2) (h f c' dfl H1 hd l)
    · exact hv v z) (by rw [List.length_cons, hl])
/-- works = [..] -/
theorem q_new (B : Basis D P q H) (M : MkW D P q W m ta σ) (hm : m ≤ 50) (hW : ∀ H H' v, ExtL H H' → W H v → W H' v) (k : ∀ (WL : Addr) (xs : List V) (H1 : Hp), ExtL H H1 → Basis D P q H1 → WL ≠ D → H1 WL = some (.lst xs) → (∀ v ∈ xs, W H1 v) → xs.length = m → tz En (σ.set i (some (.ref WL))) H1) : tSeq (tAsg (tLst ta) (gName i)) tz En σ H :=
  M H _ B fun vs H1 e1 B1 hv hl => ⟨szl (by omega), fun p hp => k p vs _ ((ExtL.of e1).trans (ExtL.ex (Ex.new hp))) (B1.up (Ex.new hp)) (B1.ne hp) upd_same (fun v z => hW _ _ _ (ExtL.ex (Ex.new hp)) (hv v z)) hl⟩
/-- works = works + [..] -/
theorem q_more {WL : Addr} {xs : List V} (B : Basis D P q H) (hi : σ[i]? = some (some (.ref WL))) (hL : H WL = some (.lst xs)) (hx : ∀ v ∈ xs, W H v) (hn : xs.length = n) (M : MkW D P q W m ta σ) (hm : n + m ≤ 50) (hW : ∀ H H' v, ExtL H H' → W H v → W H' v)
    (k : ∀ (WL : Addr) (xs : List V) (H1 : Hp), ExtL H H1 → Basis D P q H1 → WL ≠ D → H1 WL = some (.lst xs) → (∀ v ∈ xs, W H1 v) → xs.length = n + m → tz En (σ.set i (some (.ref WL))) H1) : tSeq (tAsg (tOp rCat (tVar i) (tLst ta)) (gName i)) tz En σ H :=
  ⟨.ref WL, hi, M H _ B fun vs H1 e1 B1 hv hl => ⟨szl (by omega), fun p hp => by
    have e2 := Ex.new (o := .lst vs) hp
    refine ⟨WL, p, xs, vs, rfl, rfl, e2 _ _ (extN_lst e1 hL), upd_same, szl (by omega), fun p2 hp2 => ?_⟩
    have e3 := Ex.new (o := .lst (xs ++ vs)) hp2
    have eA := (ExtL.of e1).trans (ExtL.ex (e2.trans e3))
    refine k p2 (xs ++ vs) _ eA ((B1.up e2).up e3) ((B1.up e2).ne hp2) upd_same (fun v z => ?_) (by rw [List.length_append]; omega)
    rcases List.mem_append.mp z with z | z
    · exact hW _ _ _ eA (hx v z)
    · exact hW _ _ _ (ExtL.ex (e2.trans e3)) (hv v z)⟩⟩
/-- works.append(..) -/
theorem q_put {K : PySem.W.Frag} {WL : Addr} {xs : List V} (B : Basis D P q H) (hi : σ[i]? = some (some (.ref WL))) (hD : WL ≠ D) (hL : H WL = some (.lst xs)) (hx : ∀ v ∈ xs, W H v) (hn : xs.length = n) (M : MkW D P q W 1 ta σ) (hm : n ≤ 50) (hW : ∀ H H' v, ExtL H H' → W H v → W H' v)
    (k : ∀ (xs : List V) (H1 : Hp), ExtL H H1 → Basis D P q H1 → H1 WL = some (.lst xs) → (∀ v ∈ xs, W H1 v) → xs.length = n + 1 → tz En σ H1) : tSeq (tDrop (tBM K "list" rAppend (tVar i) ta)) tz En σ H :=
  ⟨.ref WL, hi, Or.inl ⟨rfl, xs, sq_of hL⟩, M H _ B fun vs H1 e1 B1 hv hl => by
    match vs, hl with
    | [v], _ =>
      have hL1 := extN_lst e1 hL
      refine ⟨WL, xs, v, rfl, rfl, hL1, sz_lt (by omega), ?_⟩
      have eA := (ExtL.of e1).trans (ExtL.set (ys := xs ++ [v]) hL1)
      refine k (xs ++ [v]) _ eA (B1.set hD hL1) upd_same (fun u z => ?_) (by rw [List.length_append]; simp; omega)
      rcases List.mem_append.mp z with z | z
      · exact hW _ _ _ eA (hx u z)
      · exact hW _ _ _ (ExtL.set hL1) (hv u z)⟩
end
end Bm
namespace Bm
open PySem PySem.Spec PyProof.Rows L2 Evl LamX
/-! ### the own classes' facts as one Bool -/
def ownB (K : PySem.W.Frag) (C : Addr) : Bool := match K.lookup C with
  | some ⟨.type t, _, .cls cd, sl⟩ => (match cd.mro, sl.toList with
    | .ref C' :: bm, [_, _, _, _, some (.builtin n), _] => decide (t = "type") && (decide (C' = C) && (decide (n = "ValueError.__new__") && (cd.hasDict && (!cd.hasDel && PySem.HandSPX.refsVE bm))))
    | _, _ => false)
  | _ => false
theorem ownB_ok {K : PySem.W.Frag} {C : Addr} (h : ownB K C = true) : ∃ nm q N bs bm sn sub ab col dd k0 k1 k2 k3 k5, K.lookup C = some (excClassObj nm q C N bs bm true sn sub ab col dd k0 k1 k2 k3 k5 "ValueError.__new__") ∧ PySem.HandSPX.refsVE bm = true := by
  unfold ownB at h
  split at h
  · rename_i t dd cd sl ho
    split at h
    · rename_i C' bm k0 k1 k2 k3 n k5 hm hs
      simp only [Bool.and_eq_true, decide_eq_true_eq, Bool.not_eq_true'] at h
      obtain ⟨rfl, rfl, rfl, hd, hdel, hr⟩ := h
      obtain ⟨nm, bs, mro, ns, qn, hdct, sn, sub, ab, col, del⟩ := cd
      dsimp only at hm hd hdel
      subst hm hd hdel
      obtain ⟨l⟩ := sl
      have hs : l = _ := hs
      subst hs
      exact ⟨nm, qn, ns, bs, bm, sn, sub, ab, col, dd, k0, k1, k2, k3, k5, ho, hr⟩
    · cases h
  · cases h
def oB (a b : Option Bool) : Bool := decide (a = b)
def vB (a b : Option Value) : Bool := decide (a = b)
def oexB (K : PySem.W.Frag) (C : Addr) : Bool := ownB K C && (He.eqO (PySem.W.findIn K (.ref C) "__setattr__") (some (some (.builtin "object.__setattr__"))) && (oB (PySem.W.subIn K (.ref C) (.type "BaseException")) (some true) && (vB (PySem.W.typeIn K (.ref C)) (some (.type "type")) && PySem.W.keepIn K (.ref C))))
theorem oexB_ok {K : PySem.W.Frag} {C : Addr} (h : oexB K C = true) : OexC K C := by
  obtain ⟨h1, h⟩ := He.ba h
  obtain ⟨h2, h⟩ := He.ba h
  obtain ⟨h3, h⟩ := He.ba h
  obtain ⟨h4, h5⟩ := He.ba h
  exact ⟨ownB_ok h1, He.eqO_ok h2, of_decide_eq_true h3, of_decide_eq_true h4, h5⟩
def errIB (K : PySem.W.Frag) (C : Addr) (f : PySem.Str) : Bool := oexB K C && (He.eqO (PySem.W.findIn K (.ref C) f) (some none) && (He.eqO (PySem.W.findIn K (.ref C) "__init__") (some (some (.ref (He.ma K C "__init__")))) && (vB (PySem.W.typeIn K (.ref (He.ma K C "__init__"))) (some (.type "function")) && xfB K C)))
theorem errIB_ok {K : PySem.W.Frag} {C : Addr} {f : PySem.Str} (h : errIB K C f = true) : ErrI K C f := by
  obtain ⟨h1, h⟩ := He.ba h
  obtain ⟨h2, h⟩ := He.ba h
  obtain ⟨h3, h⟩ := He.ba h
  obtain ⟨h4, h5⟩ := He.ba h
  exact ⟨oexB_ok h1, He.eqO_ok h2, He.eqO_ok h3, of_decide_eq_true h4, xfB_ok h5⟩
def excB (K : PySem.W.Frag) (D : Addr) : Bool := xfB K D && (He.eqO (PySem.W.findIn K (.ref D) "__class__") (some (some (.builtin "object.__class__"))) && (He.eqO (PySem.W.specialIn K (.builtin "object.__class__") "__get__") (some (some (.builtin "getset_descriptor.__get__"))) && (oB (PySem.W.takesIn K (.builtin "object.__class__")) (some true) && oB (PySem.W.mroIn K D (.type "object")) (some true))))
theorem excB_ok {K : PySem.W.Frag} {D : Addr} (h : excB K D = true) : ExcC K D := by
  obtain ⟨h1, h⟩ := He.ba h
  obtain ⟨h2, h⟩ := He.ba h
  obtain ⟨h3, h⟩ := He.ba h
  obtain ⟨h4, h5⟩ := He.ba h
  have x := xfB_ok h1
  exact ⟨x.ga, x.gg, x.exC, x.hdC, He.eqO_ok h2, He.eqO_ok h3, of_decide_eq_true h4, of_decide_eq_true h5⟩
def errCB (K : PySem.W.Frag) (C : Addr) (b1 b2 b3 : Bool) : Bool := excB K C && (oB (PySem.W.exmOne K (.ref C) (.ref (cM K))) (some true) && (oB (PySem.W.kitOne K (.ref C) (.ref (cPt K))) (some b1) && (oB (PySem.W.kitOne K (.ref C) (.ref (cNm K))) (some b2) && (oB (PySem.W.kitOne K (.ref C) (.ref (cNo K))) (some b3) && oB (PySem.W.kitOne K (.ref C) (.type "ValueError")) (some true)))))
theorem errCB_ok {K : PySem.W.Frag} {C : Addr} {b1 b2 b3 : Bool} (h : errCB K C b1 b2 b3 = true) : ErrC K C b1 b2 b3 := by
  obtain ⟨h1, h⟩ := He.ba h
  obtain ⟨h2, h⟩ := He.ba h
  obtain ⟨h3, h⟩ := He.ba h
  obtain ⟨h4, h⟩ := He.ba h
  obtain ⟨h5, h6⟩ := He.ba h
  exact ⟨excB_ok h1, of_decide_eq_true h2, of_decide_eq_true h3, of_decide_eq_true h4, of_decide_eq_true h5, of_decide_eq_true h6⟩
def initB (K : PySem.W.Frag) (C : Addr) : Bool := PySem.W.readsIn K C (.type "type") && (He.eqO (PySem.W.specialIn K (.ref C) "__getattribute__") (some (some (.builtin "type.__getattribute__"))) && (match PySem.W.findCls K (.ref C) (.type "type") "__init__" with
  | some (.val v) => decide (v = .builtin "ValueError.__init__")
  | _ => false))
theorem initB_ok {K : PySem.W.Frag} {C : Addr} (h : initB K C = true) : OwnInit K C := by
  obtain ⟨h1, h⟩ := He.ba h
  obtain ⟨h2, h⟩ := He.ba h
  refine ⟨h1, He.eqO_ok h2, ?_⟩
  split at h
  · rename_i v e
    rw [e, of_decide_eq_true h]
  · cases h
def errsB (K : PySem.W.Frag) : Bool := initB K (cM K) && (errIB K (cPt K) "at" && (errIB K (cNo K) "number" && ((He.Fa.exc "BadNumber").ok K && (errCB K (cPt K) true false false && (errCB K (cNm K) false true false && errCB K (cNo K) false false true)))))
theorem errsB_ok {K : PySem.W.Frag} {mg : PySem.Str → Option Value} (h : errsB K = true) (gM : mg "MeetError" = some (.ref (cM K))) (gP : mg "BadPattern" = some (.ref (cPt K))) (gN : mg "BadNumber" = some (.ref (cNm K))) (gO : mg "NoPattern" = some (.ref (cNo K))) (gV : mg "ValueError" = none) : Errs K mg := by
  obtain ⟨h1, h⟩ := He.ba h
  obtain ⟨h2, h⟩ := He.ba h
  obtain ⟨h3, h⟩ := He.ba h
  obtain ⟨h4, h⟩ := He.ba h
  obtain ⟨h5, h⟩ := He.ba h
  obtain ⟨h6, h7⟩ := He.ba h
  obtain ⟨x1, x2, x3, x4⟩ := He.exc_ok h4
  exact ⟨gM, gP, gN, gO, gV, initB_ok h1, errIB_ok h2, errIB_ok h3, x1, x2, x3, x4, errCB_ok h5, errCB_ok h6, errCB_ok h7⟩
/-! ### the Hook: the defs' facts, the classes', the law's table (empty, kept out) -/
def tfL : List He.Defn := [("law", none)]
def asL (g : Addr → Option Obj) (n : Nat) : List Addr := He.asD g n ++ [cStatics]
abbrev AlL : Type := He.AlD × Bool
def obsL (n : Nat) (fa : List He.Fa) (fn : List He.DefD) (g : Addr → Option Obj) : AlL := (He.obsD fa fn (He.frT g (asL g n)), errsB (He.frT g (asL g n)) && He.tabsB g tfL (He.frT g (asL g n)))
structure SaysL (fa : List He.Fa) (fn : List He.DefD) (h : Heap) (K : PySem.W.Frag) : Prop where
  d : He.SaysD fa fn K
  e : errsB K = true
  hd : PySem.W.codeHdIn K (He.cT K ("law", none)).1 (He.cT K ("law", none)).2 = true
  out : K.lookup (He.cT K ("law", none)).2 = none
  empty : h.get? (He.cT K ("law", none)).2 = some { cls := .none, data := .fields #[] }
theorem saysL_of {n : Nat} {fa : List He.Fa} {fn : List He.DefD} {h : Heap} (e : obsL n fa fn h.get? = (He.valD fn, true)) : SaysL fa fn h (He.frT h.get? (asL h.get? n)) := by
  have e1 : He.obsD fa fn (He.frT h.get? (asL h.get? n)) = He.valD fn := congrArg (fun z : AlL => z.1) e
  have e2 : (errsB (He.frT h.get? (asL h.get? n)) && He.tabsB h.get? tfL (He.frT h.get? (asL h.get? n))) = true := congrArg (fun z : AlL => z.2) e
  obtain ⟨h1, h2⟩ := He.ba e2
  obtain ⟨h3, h4⟩ := He.ba (List.all_eq_true.mp h2 ("law", none) List.mem_cons_self)
  cases q : h.get? (He.cT (He.frT h.get? (asL h.get? n)) ("law", none)).2 with
  | none =>
    rw [q] at h4
    cases h4
  | some o =>
    rw [q] at h4
    exact ⟨e1, h1, h3, He.frT_none q h4, by rw [q, He.emptyTab_eq h4]⟩
def hookL (n : Nat) (fa : List He.Fa) (fn : List He.DefD) : PySem.W.Hook where
  α := AlL
  obs := fun s => obsL n fa fn s.heap.get?
  val := fun _ => (He.valD fn, true)
  says := fun _ h => ∃ K : PySem.W.Frag, K.In h ∧ SaysL fa fn h K
  of := fun _ _ e => ⟨_, He.frT_in, saysL_of e⟩
  keeps := fun _ _ _ ⟨K, hK, c⟩ k => ⟨K, PySem.W.Frag.In.keeps hK k, ⟨c.d, c.e, c.hd, c.out, k _ _ c.empty⟩⟩
theorem obsL_eq {n : Nat} {fa : List He.Fa} {fn : List He.DefD} {g : Addr → Option Obj} {s : Shared} (h : ∀ a, g a = s.heap.get? a) : obsL n fa fn g = (hookL n fa fn).obs s := by
  have e : g = s.heap.get? := funext h
  rw [e] <;> rfl
end Bm
namespace Bm
open PySem PySem.Spec PyProof.Rows L2 Evl
/-! ### the text -/
def topS (i : Nat) : Stmt := PySem.Challenge.pw_beaconmeet_k01_patterns_refused.main.body.getD i (.Pass ⟨0, 0, 0, 0⟩)
end Bm
namespace Bm
open PySem PySem.Spec PyProof.Rows L2 Evl
section
variable {P : Program} {w : World} {K : PySem.W.Frag} {mg : PySem.Str → Option Value} {base : Heap}
/-! ### fault_of -/
abbrev s_fault_of : Stmt := topS 9
theorem sc_fault_of : FnScope ["pattern", "at", "sign"] ["pattern"] (defScope s_fault_of) := ⟨rfl, rfl, rfl, by decide +kernel, rfl, by decide +kernel, by decide +kernel⟩
def spFault : Sp := fun vs H Q _ => ∃ x : PySem.Str, vs = [.str x] ∧ x.length ≤ 1000 ∧ RetV (oV (fault x.cps.toList)) H Q
theorem sign01 (c : Nat) : (!inV (.str ⟨#[c]⟩) [.str "1", .str "0"]) = !(c == 49 || c == 48) := by
  have h1 : eqV (.str "1") (.str ⟨#[c]⟩) = (c == 49) := by
    show decide (("1" : PySem.Str) = ⟨#[c]⟩) = _
    by_cases h : c = 49
    · subst h; rfl
    · rw [decide_eq_false (fun e => h (by have := congrArg (fun z : PySem.Str => z.cps.toList) e; simpa using (List.cons.inj this).1.symm))]
      simp [h]
  have h0 : eqV (.str "0") (.str ⟨#[c]⟩) = (c == 48) := by
    show decide (("0" : PySem.Str) = ⟨#[c]⟩) = _
    by_cases h : c = 48
    · subst h; rfl
    · rw [decide_eq_false (fun e => h (by have := congrArg (fun z : PySem.Str => z.cps.toList) e; simpa using (List.cons.inj this).1.symm))]
      simp [h]
  show (!(eqV (.str "1") (.str ⟨#[c]⟩) || (eqV (.str "0") (.str ⟨#[c]⟩) || false))) = _
  rw [h1, h0, Bool.or_false]
theorem ok_fault_of (D : Def1 K mg "fault_of" s_fault_of) (B : Bl mg) (g_MOST_BEATS : ∃ t, mg "MOST_BEATS" = some (.int 12 t)) (g_AWAKE : ∃ t, mg "AWAKE" = some (.str "1" t)) (g_ASLEEP : ∃ t, mg "ASLEEP" = some (.str "0" t)) :
    Cal P w K mg base 1 "fault_of" ["pattern"] spFault := by
  refine D.cal sc_fault_of (fun _ _ _ _ _ _ us hl => match us, hl with | [_], _ => rfl) (fun vs H Q E h => ?_) (fun f cdv A outer s H vs Q E hr h => ?_)
  · obtain ⟨x, rfl, _⟩ := h
    rfl
  · obtain ⟨x, rfl, hl, k⟩ := h
    refine ⟨_, (pss_cons (ps_for PassesOwn.never rfl (pi_enumS (by rfl) B.enumerate (pa_cons (pv 0) pa_nil)) (pg_tup rfl (pgs_cons (pg_name (i := 1) sc_fault_of.nd rfl (Or.inl rfl)) (pgs_cons (pg_name (i := 2) sc_fault_of.nd rfl (Or.inl rfl)) pgs_nil)))
 (pss_one (ps_if (PW.pt (pw_or (pt_cmpR op_ge (pv 1) (pe_gI g_MOST_BEATS) (nomark _)) (pw_or1 (pt_cmpR op_notIn_seq (pv 2) (pe_tup (pa_cons (pe_gS g_AWAKE) (pa_cons (pe_gS g_ASLEEP) pa_nil))) (by rfl))))) (pss_one (ps_ret (pv 1)))
 pss_nil)))
 (pss_one (ps_ret (pe_ifExp (pt_cmpR op_notIn_sign (pe_gS g_AWAKE) (pv 0) (by rfl)) (pe_callB call_len_str (by rfl) B.len PySem.boot_len (pa_cons (pv 0) pa_nil)) pe_non)))), ?_⟩
    have hls : x.cps.toList.length = x.cps.size := Array.length_toList
    refine s_forES (ea_cons (ev_var rfl) ea_nil) (fun i σ H' => (∃ y1 y2, σ = [some (.str x), y1, y2]) ∧ Ex H H' ∧ ∀ j, j < i → badAt (x.cps.toList.getD j 0) j = false) (fun H1 e => ⟨⟨_, _, rfl⟩, e, fun j hj => absurd hj (Nat.not_lt_zero _)⟩) (fun i T c σ' H' hc p hT => ?_) (fun σ' H' p => ?_)
    · obtain ⟨⟨y1, y2, rfl⟩, e, pr⟩ := p
      refine g_two ?_
      have hg : x.cps.toList.getD i 0 = c := by
        rw [List.getD_eq_getElem?_getD, Array.getElem?_toList, hc]
        rfl
      have hi : i < x.cps.size := (Array.getElem?_eq_some_iff.mp hc).1
      have eT : Ex H (upd H' T (.tup [.int (i : Nat), .str ⟨#[c]⟩])) := e.trans (Ex.new hT)
      refine s_when (b := badAt c i) (et_is (et_or (et_test (ev_op (ev_var rfl) ev_c rv_I0)) (fun _ => et_test (ev_niU (ev_var rfl) (eu_tup (ea_cons ev_c (ea_cons ev_c ea_nil)) (by show 2 ≤ 100000; decide)) rfl rfl))) ?_) (fun hb H1 e1 => ?_) (fun hb H1 e1 => ?_)
      · rw [sign01]
        show (decide ((12 : Int) ≤ (i : Int)) || _) = badAt c i
        unfold badAt
        congr 1
        exact decide_eq_decide.mpr (by omega)
      · refine s_ret (v := .int (i : Nat)) (ev_var rfl) fun H2 e2 => ?_
        have hf : fault x.cps.toList = some i := by
          unfold fault
          rw [find_range_is (n := x.cps.toList.length) (m := i) (by rw [hls]; exact hi) (by rw [hg]; exact hb) pr]
        have := k H2 ((eT.trans e1).trans e2)
        rw [hf] at this
        exact this
      · refine ⟨⟨_, _, rfl⟩, eT.trans e1, fun j hj => ?_⟩
        by_cases hj' : j < i
        · exact pr j hj'
        · have : j = i := by omega
          rw [this, hg]
          exact hb
    · obtain ⟨⟨y1, y2, rfl⟩, e, pr⟩ := p
      have hn : (List.range x.cps.toList.length).find? (fun i => badAt (x.cps.toList.getD i 0) i) = none := find_range_no (by rw [hls]; exact pr)
      have hf : fault x.cps.toList = if 49 ∈ x.cps.toList then none else some x.cps.toList.length := by
        unfold fault
        rw [hn]
      have hin : Ev (tOp rSignNot (tC (.str "1")) (tVar 0)) [some (.str x), y1, y2] H' (.bl (!decide (49 ∈ x.cps.toList))) :=
        ev_op ev_c (ev_var rfl) fun H1 _ _ q => ⟨49, x, rfl, rfl, q H1 (Ex.refl H1)⟩
      have hln : Ev (tCB rLenStr (tCons (tVar 0) tNil)) [some (.str x), y1, y2] H' (.int (x.cps.toList.length : Nat)) := fun H1 _ Q q => ⟨.str x, rfl, x, rfl, szl hl, by have z := q H1 (Ex.refl H1); rw [hls] at z; exact z⟩
      refine s_ret (v := oV (fault x.cps.toList)) (ev_if (et_test hin) (fun hb => ?_) (fun hb => ?_)) fun H2 e2 => k H2 (e.trans e2)
      · have : ¬ 49 ∈ x.cps.toList := by simpa using hb
        rw [hf, if_neg this]
        exact hln
      · have : 49 ∈ x.cps.toList := by simpa using hb
        rw [hf, if_pos this]
        exact ev_c
/-! ### need_pattern -/
abbrev s_need_pattern : Stmt := topS 10
theorem sc_need_pattern : FnScope ["pattern", "fault"] ["pattern"] (defScope s_need_pattern) := ⟨rfl, rfl, rfl, by decide +kernel, rfl, by decide +kernel, by decide +kernel⟩
def spNeedP : Sp := fun vs H Q _ => ∃ p, vs = [.str (txt p)] ∧ Pat 12 p ∧ RetV .non H Q
theorem ok_need_pattern (D : Def1 K mg "need_pattern" s_need_pattern) (c_fault_of : Cal P w K mg base 1 "fault_of" ["pattern"] spFault) : Cal P w K mg base 2 "need_pattern" ["pattern"] spNeedP := by
  refine D.cal sc_need_pattern (fun _ _ _ _ _ _ us hl => match us, hl with | [_], _ => rfl) (fun vs H Q E h => ?_) (fun f cdv A outer s H vs Q E hr h => ?_)
  · obtain ⟨x, rfl, _⟩ := h
    rfl
  · obtain ⟨p, rfl, hp, k⟩ := h
    refine ⟨_, (pss_cons (ps_set (i := 1) sc_need_pattern.nd rfl (Or.inl rfl) (pe_callC c_fault_of hr (by decide) (pa_cons (pv 0) pa_nil)))
 (pss_one (ps_if (pt_cmpR op_notN (pv 1) pe_non (nomark _)) pss_never
 pss_nil))), ?_⟩
    have hh := hp.hi
    refine q_asg (v := .non) (ev_call (ea_cons (ev_var rfl) ea_nil) fun H1 e Q q E => ⟨txt p, rfl, by rw [txt_len]; omega, by rw [fault_txt hp]; exact q⟩) fun H1 e1 => ?_
    exact s_when (b := false) (et_is (et_test (ev_notN (x := .non) (ev_var rfl))) rfl) (fun hb => nomatch hb) (fun _ H2 e2 => k H2 (e1.trans e2))
/-! ### need_phase -/
abbrev s_need_phase : Stmt := topS 12
theorem sc_need_phase : FnScope ["pattern", "phase"] ["pattern", "phase"] (defScope s_need_phase) := ⟨rfl, rfl, rfl, by decide +kernel, rfl, by decide +kernel, by decide +kernel⟩
def spNeedPh : Sp := fun vs H Q _ => ∃ (p : List Bool) (a : Nat), vs = [.str (txt p), .int (a : Nat)] ∧ p.length ≤ 1000 ∧ a < p.length ∧ RetV .non H Q
theorem ok_need_phase (D : Def1 K mg "need_phase" s_need_phase) (B : Bl mg) : Cal P w K mg base 1 "need_phase" ["pattern", "phase"] spNeedPh := by
  refine D.cal sc_need_phase (fun _ _ _ _ _ _ us hl => match us, hl with | [_, _], _ => rfl) (fun vs H Q E h => ?_) (fun f cdv A outer s H vs Q E hr h => ?_)
  · obtain ⟨x, a, rfl, _⟩ := h
    rfl
  · obtain ⟨p, a, rfl, hl, ha, k⟩ := h
    refine ⟨_, (pss_one (ps_if (pt_not (pt_chain op_le op_lt pe_int (pv 1) (pe_callB call_len_str (by rfl) B.len PySem.boot_len (pa_cons (pv 0) pa_nil)))) pss_never
 pss_nil)), ?_⟩
    refine s_when (b := false) (et_is (et_not (et_test (ev_chain (K := K) ev_c (ev_var rfl) (ev_lenS (p := p) (ev_var rfl) hl) rv_I0 rv_I0))) ?_) (fun hb => nomatch hb) (fun _ H2 e2 => k H2 e2)
    have h1 : decide ((0 : Int) ≤ (a : Nat)) = true := decide_eq_true (by omega)
    have h2 : decide (((a : Nat) : Int) < (p.length : Nat)) = true := decide_eq_true (by omega)
    show (!(decide ((0 : Int) ≤ (a : Nat)) && decide (((a : Nat) : Int) < (p.length : Nat)))) = false
    rw [h1, h2]
    rfl
/-! ### need_beats -/
abbrev s_need_beats : Stmt := topS 11
theorem sc_need_beats : FnScope ["beats"] ["beats"] (defScope s_need_beats) := ⟨rfl, rfl, rfl, by decide +kernel, rfl, by decide +kernel, by decide +kernel⟩
def spNeedB : Sp := fun vs H Q _ => ∃ n : Nat, vs = [.int (n : Nat)] ∧ 1 ≤ n ∧ n ≤ 12 ∧ RetV .non H Q
theorem ok_need_beats (D : Def1 K mg "need_beats" s_need_beats) (B : Bl mg) (g_MOST_BEATS : ∃ t, mg "MOST_BEATS" = some (.int 12 t)) : Cal P w K mg base 1 "need_beats" ["beats"] spNeedB := by
  refine D.cal sc_need_beats (fun _ _ _ _ _ _ us hl => match us, hl with | [_], _ => rfl) (fun vs H Q E h => ?_) (fun f cdv A outer s H vs Q E hr h => ?_)
  · obtain ⟨n, rfl, _⟩ := h
    rfl
  · obtain ⟨n, rfl, h1, h2, k⟩ := h
    refine ⟨_, (pss_one (ps_if (pt_not (pt_chain op_le op_le pe_int (pv 0) (pe_gI g_MOST_BEATS))) pss_never
 pss_nil)), ?_⟩
    refine s_when (b := false) (et_is (et_not (et_test (ev_chain (K := K) ev_c (ev_var rfl) ev_c rv_I0 rv_I0))) ?_) (fun hb => nomatch hb) (fun _ H2 e2 => k H2 e2)
    have a1 : decide ((1 : Int) ≤ (n : Nat)) = true := decide_eq_true (by omega)
    have a2 : decide (((n : Nat) : Int) ≤ 12) = true := decide_eq_true (by omega)
    show (!(decide ((1 : Int) ≤ (n : Nat)) && decide (((n : Nat) : Int) ≤ 12))) = false
    rw [a1, a2]
    rfl
/-! ### awake_of -/
abbrev s_awake_of : Stmt := topS 13
theorem sc_awake_of : FnScope ["pattern", "at"] ["pattern"] (defScope s_awake_of) := ⟨rfl, rfl, rfl, by decide +kernel, rfl, by decide +kernel, by decide +kernel⟩
theorem ok_awake_of (D : Def1 K mg "awake_of" s_awake_of) (B : Bl mg) (g_AWAKE : ∃ t, mg "AWAKE" = some (.str "1" t)) : Cal P w K mg base 1 "awake_of" ["pattern"] spOnes := by
  refine D.cal sc_awake_of (fun _ _ _ _ _ _ us hl => match us, hl with | [_], _ => rfl) (fun vs H Q E h => ?_) (fun f cdv A outer s H vs Q E hr h => ?_)
  · obtain ⟨p, rfl, _⟩ := h
    rfl
  · obtain ⟨p, rfl, hp, k⟩ := h
    refine ⟨_, (pss_one (ps_ret (pe_lc (own := [("at", 1)]) (g := gName 1) rfl sc_awake_of.nd (pi_range1 (by rfl) B.range (pa_cons (pe_callB call_len_str (by rfl) B.len PySem.boot_len (pa_cons (pv 0) pa_nil)) pa_nil)) (blkOk_by (N := ["pattern", "at"]) (sc := defScope s_awake_of) (by decide +kernel)) (fun _ _ _ _ _ => (pg_name (i := 1) sc_awake_of.nd rfl (Or.inl rfl))) (fun _ _ _ _ _ => (pts_one (pt_cmpR op_eq (pe_ix ix_str (pv 0) (pv 1) (fun _ _ => rfl)) (pe_gS g_AWAKE) (nomark _)))) (fun _ _ _ _ _ => (pv 1))))), ?_⟩
    refine s_retL (el_lcR1 (n := ((p.length : Nat) : Int)) (fun i => p.getD i false) (fun i => .int (i : Nat)) (ea_cons (ev_lenS (ev_var rfl) hp) ea_nil) (by omega) (fun _ => rfl) (fun i H1 e1 hi => ?_) (fun i H1 e1 hi _ => ev_var rfl)) fun a H1 ha e1 h1 => k a H1 ha e1 h1
    exact et_test (ev_is1 (ev_ixP (ev_var rfl) (ev_var rfl) (by omega) hp) ev_c)
/-! ### awake -/
abbrev s_awake : Stmt := topS 14
theorem sc_awake : FnScope ["pattern"] ["pattern"] (defScope s_awake) := ⟨rfl, rfl, rfl, by decide +kernel, rfl, by decide +kernel, by decide +kernel⟩
def spAwake : Sp := fun vs H Q _ => ∃ p : List Bool, vs = [.str (txt p)] ∧ Pat 12 p ∧ RetV (.int ((onesV p).length : Nat)) H Q
theorem ok_awake (D : Def1 K mg "awake" s_awake) (B : Bl mg) (c_need_pattern : Cal P w K mg base 2 "need_pattern" ["pattern"] spNeedP) (c_awake_of : Cal P w K mg base 1 "awake_of" ["pattern"] spOnes) : Cal P w K mg base 3 "awake" ["pattern"] spAwake := by
  refine D.cal sc_awake (fun _ _ _ _ _ _ us hl => match us, hl with | [_], _ => rfl) (fun vs H Q E h => ?_) (fun f cdv A outer s H vs Q E hr h => ?_)
  · obtain ⟨p, rfl, _⟩ := h
    rfl
  · obtain ⟨p, rfl, hp, k⟩ := h
    refine ⟨_, (pss_cons (ps_expr (pe_callC c_need_pattern hr (by decide) (pa_cons (pv 0) pa_nil)))
 (pss_one (ps_ret (pe_callB call_len_seq (by rfl) B.len PySem.boot_len (pa_cons (pe_callC c_awake_of hr (by decide) (pa_cons (pv 0) pa_nil)) pa_nil))))), ?_⟩
    have hp1 := hp.hi
    refine q_drop (v := .non) (ev_call (ea_cons (ev_var rfl) ea_nil) fun H1 e Q k E => ⟨p, rfl, hp, k⟩) fun H1 e1 => ?_
    exact s_ret (ev_lenN (K := K) (el_call (ea_cons (ev_var rfl) ea_nil) fun H1 e Q k E => ⟨p, rfl, by omega, k⟩)) fun H2 e2 => k H2 (e1.trans e2)
/-! ### turned -/
abbrev s_turned : Stmt := topS 16
theorem sc_turned : FnScope ["pattern", "by"] ["pattern", "by"] (defScope s_turned) := ⟨rfl, rfl, rfl, by decide +kernel, rfl, by decide +kernel, by decide +kernel⟩
/-! ### least_turn -/
abbrev s_least_turn : Stmt := topS 17
theorem sc_least_turn : FnScope ["pattern", "by"] ["pattern"] (defScope s_least_turn) := ⟨rfl, rfl, rfl, by decide +kernel, rfl, by decide +kernel, by decide +kernel⟩
/-! ### is_met -/
abbrev s_is_met : Stmt := topS 21
theorem sc_is_met : FnScope ["one", "other", "here", "there", "loose"] ["one", "other", "here", "there", "loose"] (defScope s_is_met) := ⟨rfl, rfl, rfl, by decide +kernel, rfl, by decide +kernel, by decide +kernel⟩
def spIsMet : Sp := fun vs H Q _ => ∃ (p q : List Bool) (x y : Nat) (l : Bool), vs = [.str (txt p), .str (txt q), .int (x : Nat), .int (y : Nat), .bl l] ∧ (0 < p.length ∧ p.length ≤ 1000) ∧ (0 < q.length ∧ q.length ≤ 1000) ∧ RetV (.bl (met p q l x y)) H Q
theorem ok_is_met (D : Def1 K mg "is_met" s_is_met) (B : Bl mg) (g_AWAKE : ∃ t, mg "AWAKE" = some (.str "1" t)) (g_LATER : ∃ t, mg "LATER" = some (.int 1 t)) :
    Cal P w K mg base 1 "is_met" ["one", "other", "here", "there", "loose"] spIsMet := by
  refine D.cal sc_is_met (fun _ _ _ _ _ _ us hl => match us, hl with | [_, _, _, _, _], _ => rfl) (fun vs H Q E h => ?_) (fun f cdv A outer s H vs Q E hr h => ?_)
  · obtain ⟨p, q, x, y, l, rfl, _⟩ := h
    rfl
  · obtain ⟨p, q, x, y, l, rfl, ⟨hp, hp2⟩, ⟨hq, hq2⟩, k⟩ := h
    refine ⟨_, (pss_cons (ps_if (pt_cmpR op_ne (pe_ix ix_str (pv 1) (pe_op op_mod (pv 3) (pe_callB call_len_str (by rfl) B.len PySem.boot_len (pa_cons (pv 1) pa_nil))) (fun _ _ => rfl)) (pe_gS g_AWAKE) (nomark _)) (pss_one (ps_ret pe_bl))
 pss_nil)
 (pss_one (ps_ret (pe_or (pe_cmpR op_eq (pe_ix ix_str (pv 0) (pe_op op_mod (pv 2) (pe_callB call_len_str (by rfl) B.len PySem.boot_len (pa_cons (pv 0) pa_nil))) (fun _ _ => rfl)) (pe_gS g_AWAKE) (nomark _)) (pe_one (pe_and (pv 4) (pe_one (pe_cmpR op_eq (pe_ix ix_str (pv 0) (pe_op op_mod (pe_op op_add (pv 2) (pe_gI g_LATER)) (pe_callB call_len_str (by rfl) B.len PySem.boot_len (pa_cons (pv 0) pa_nil))) (fun _ _ => rfl)) (pe_gS g_AWAKE) (nomark _))))))))), ?_⟩
    refine q_when (b := !(aw q y)) (et_test (ev_no1 (ev_ixP (p := q) (ev_var rfl) (ev_modN (ev_var rfl) (ev_lenS (ev_var rfl) hq2) hq) (Nat.mod_lt _ hq) hq2) ev_c)) (fun hb H1 e1 => ?_) (fun hb H1 e1 => ?_)
    · refine s_ret (v := .bl (met p q l x y)) (ev_is ev_c ?_) fun H2 e2 => k H2 (e1.trans e2)
      have z : aw q y = false := by simpa using hb
      unfold met
      rw [z]
      rfl
    · refine s_ret (v := .bl (met p q l x y)) (ev_is (ev_orV (a := aw p x) (ev_is1 (ev_ixP (p := p) (ev_var rfl) (ev_modN (ev_var rfl) (ev_lenS (ev_var rfl) hp2) hp) (Nat.mod_lt _ hp) hp2) ev_c)
        (fun _ => ev_andV (a := l) (b := aw p (x + 1)) (ev_var rfl) (fun _ => ev_is1 (ev_ixP (p := p) (ev_var rfl) (ev_modN (ev_addN (ev_var rfl) (ev_c (v := .int ((1 : Nat) : Int)))) (ev_lenS (ev_var rfl) hp2) hp) (Nat.mod_lt _ hp) hp2) ev_c))) ?_) fun H2 e2 => k H2 (e1.trans e2)
      have z : aw q y = true := by simpa using hb
      unfold met
      rw [z]
      rfl
/-! ### first_of -/
abbrev s_first_of : Stmt := topS 22
theorem sc_first_of : FnScope ["one", "a", "other", "b", "loose", "moment"] ["one", "a", "other", "b", "loose"] (defScope s_first_of) := ⟨rfl, rfl, rfl, by decide +kernel, rfl, by decide +kernel, by decide +kernel⟩
def spFirst : Sp := fun vs H Q _ => ∃ (p q : List Bool) (a b : Nat) (l : Bool), vs = [.str (txt p), .int (a : Nat), .str (txt q), .int (b : Nat), .bl l] ∧ (0 < p.length ∧ p.length ≤ 100) ∧ (0 < q.length ∧ q.length ≤ 100) ∧ RetV (oV (first p q l a b)) H Q
theorem ok_first_of (D : Def1 K mg "first_of" s_first_of) (B : Bl mg) (c_is_met : Cal P w K mg base 1 "is_met" ["one", "other", "here", "there", "loose"] spIsMet) :
    Cal P w K mg base 2 "first_of" ["one", "a", "other", "b", "loose"] spFirst := by
  refine D.cal sc_first_of (fun _ _ _ _ _ _ us hl => match us, hl with | [_, _, _, _, _], _ => rfl) (fun vs H Q E h => ?_) (fun f cdv A outer s H vs Q E hr h => ?_)
  · obtain ⟨p, q, x, y, l, rfl, _⟩ := h
    rfl
  · obtain ⟨p, q, a, b, l, rfl, ⟨hp, hp2⟩, ⟨hq, hq2⟩, k⟩ := h
    refine ⟨_, (pss_cons (ps_for PassesOwn.never rfl (pi_range1 (by rfl) B.range (pa_cons (pe_op op_mul (pe_callB call_len_str (by rfl) B.len PySem.boot_len (pa_cons (pv 0) pa_nil)) (pe_callB call_len_str (by rfl) B.len PySem.boot_len (pa_cons (pv 2) pa_nil))) pa_nil)) (pg_name (i := 5) sc_first_of.nd rfl (Or.inl rfl))
 (pss_one (ps_if (pt_val (pe_callC c_is_met hr (by decide) (pa_cons (pv 0) (pa_cons (pv 2) (pa_cons (pe_op op_add (pv 1) (pv 5)) (pa_cons (pe_op op_add (pv 3) (pv 5)) (pa_cons (pv 4) pa_nil))))))) (pss_one (ps_ret (pv 5)))
 pss_nil)))
 (pss_one (ps_ret pe_non))), ?_⟩
    have hm : p.length * q.length ≤ 100 * 100 := Nat.mul_le_mul hp2 hq2
    refine q_forR1 (n := ((p.length * q.length : Nat) : Int)) (ea_cons (ev_mulN (ev_lenS (p := p) (ev_var rfl) (by omega)) (ev_lenS (p := q) (ev_var rfl) (by omega)) (by omega)) ea_nil) (by omega)
      (fun i σ H' => (∃ z, σ = [some (.str (txt p)), some (.int (a : Nat)), some (.str (txt q)), some (.int (b : Nat)), some (.bl l), z]) ∧ Ex H H' ∧ ∀ j, j < i → met p q l (a + j) (b + j) = false)
      (fun H1 e => ⟨⟨_, rfl⟩, e, fun j hj => absurd hj (Nat.not_lt_zero _)⟩) (fun i σ' H' hi pr => ?_) (fun σ' H' pr => ?_)
    · obtain ⟨⟨z, rfl⟩, e, pr⟩ := pr
      refine s_when (b := met p q l (a + i) (b + i)) (et_B (ev_call (ea_cons (ev_var rfl) (ea_cons (ev_var rfl) (ea_cons (ev_addN (ev_var rfl) (ev_var rfl)) (ea_cons (ev_addN (ev_var rfl) (ev_var rfl)) (ea_cons (ev_var rfl) ea_nil)))))
        fun H1 e Q k E => ⟨p, q, a + i, b + i, l, rfl, ⟨hp, by omega⟩, ⟨hq, by omega⟩, k⟩)) (fun hb H1 e1 => ?_) (fun hb H1 e1 => ?_)
      · refine s_ret (v := .int (i : Nat)) (ev_var rfl) fun H2 e2 => ?_
        have hf : first p q l a b = some i := find_range_is (by omega) hb pr
        have := k H2 ((e.trans e1).trans e2)
        rw [hf] at this
        exact this
      · refine ⟨⟨_, rfl⟩, e.trans e1, fun j hj => ?_⟩
        by_cases hj' : j < i
        · exact pr j hj'
        · have : j = i := by omega
          rw [this]
          exact hb
    · obtain ⟨⟨z, rfl⟩, e, pr⟩ := pr
      refine s_ret (v := .non) ev_c fun H2 e2 => ?_
      have hf : first p q l a b = none := find_range_no (by
        intro i hi
        exact pr i (by omega))
      have := k H2 (e.trans e2)
      rw [hf] at this
      exact this
/-! ### first_meet -/
abbrev s_first_meet : Stmt := topS 23
theorem sc_first_meet : FnScope ["one", "a", "other", "b", "loose"] ["one", "a", "other", "b", "loose"] (defScope s_first_meet) := ⟨rfl, rfl, rfl, by decide +kernel, rfl, by decide +kernel, by decide +kernel⟩
/-! ### worst_of -/
abbrev s_worst_of : Stmt := topS 24
theorem sc_worst_of : FnScope ["one", "other", "loose", "best", "a", "b", "moment"] ["one", "other", "loose"] (defScope s_worst_of) := ⟨rfl, rfl, rfl, by decide +kernel, rfl, by decide +kernel, by decide +kernel⟩
/-- the best so far, as a value -/
def isBest (K : PySem.W.Frag) (H : Hp) (v : V) : Option Row → Prop
  | none => v = .non
  | some r => r.1 ≠ none ∧ Is K H v (cRow r)
theorem isBest.up {H H' : Hp} {v : V} {o : Option Row} (h : isBest K H v o) (e : Ex H H') : isBest K H' v o := by
  cases o with
  | none => exact h
  | some r => exact ⟨h.1, h.2.up e⟩
theorem allMeet_app {a b : List Row} : allMeet (a ++ b) ↔ allMeet a ∧ allMeet b :=
  ⟨fun h => ⟨fun r hr => h r (List.mem_append_left _ hr), fun r hr => h r (List.mem_append_right _ hr)⟩, fun h r hr => (List.mem_append.mp hr).elim (h.1 r) (h.2 r)⟩
theorem ok_worst_of (D : Def1 K mg "worst_of" s_worst_of) (B : Bl mg) (c_first_of : Cal P w K mg base 2 "first_of" ["one", "a", "other", "b", "loose"] spFirst) : Cal P w K mg base 3 "worst_of" ["one", "other", "loose"] (spWorst K) := by
  refine D.cal sc_worst_of (fun _ _ _ _ _ _ us hl => match us, hl with | [_, _, _], _ => rfl) (fun vs H Q E h => ?_) (fun f cdv A outer s H vs Q E hr h => ?_)
  · obtain ⟨p, q, l, rfl, _⟩ := h
    rfl
  · obtain ⟨p, q, l, rfl, ⟨hp, hp2⟩, ⟨hq, hq2⟩, k⟩ := h
    refine ⟨_, (pss_cons (ps_set (i := 3) sc_worst_of.nd rfl (Or.inl rfl) pe_non)
 (pss_cons (ps_for PassesOwn.never rfl (pi_range1 (by rfl) B.range (pa_cons (pe_callB call_len_str (by rfl) B.len PySem.boot_len (pa_cons (pv 0) pa_nil)) pa_nil)) (pg_name (i := 4) sc_worst_of.nd rfl (Or.inl rfl))
 (pss_one (ps_for PassesOwn.never rfl (pi_range1 (by rfl) B.range (pa_cons (pe_callB call_len_str (by rfl) B.len PySem.boot_len (pa_cons (pv 1) pa_nil)) pa_nil)) (pg_name (i := 5) sc_worst_of.nd rfl (Or.inl rfl))
 (pss_cons (ps_set (i := 6) sc_worst_of.nd rfl (Or.inl rfl) (pe_callC c_first_of hr (by decide) (pa_cons (pv 0) (pa_cons (pv 4) (pa_cons (pv 1) (pa_cons (pv 5) (pa_cons (pv 2) pa_nil)))))))
 (pss_cons (ps_if (pt_cmpR op_isN (pv 6) pe_non (nomark _)) (pss_one (ps_ret (pe_tup (pa_cons pe_non (pa_cons (pv 4) (pa_cons (pv 5) pa_nil))))))
 pss_nil)
 (pss_one (ps_if (PW.pt (pw_or (pt_cmpR op_isN (pv 3) pe_non (nomark _)) (pw_or1 (pt_cmpR op_gt (pv 6) (pe_ix ix_tup (pv 3) pe_int (fun _ _ => rfl)) (nomark _))))) (pss_one (ps_set (i := 3) sc_worst_of.nd rfl (Or.inl rfl) (pe_tup (pa_cons (pv 6) (pa_cons (pv 4) (pa_cons (pv 5) pa_nil))))))
 pss_nil)))))))
 (pss_one (ps_ret (pv 3))))), ?_⟩
    refine q_asg (v := .non) ev_c fun H1 e1 => ?_
    refine q_forR1 (n := ((p.length : Nat) : Int)) (ea_cons (ev_lenS (p := p) (ev_var rfl) (by omega)) ea_nil) (by omega)
      (fun a σ H' => (∃ v y4 y5 y6, σ = [some (.str (txt p)), some (.str (txt q)), some (.bl l), some v, y4, y5, y6] ∧ isBest K H' v ((upto p q l a).foldl stp none)) ∧ Ex H H' ∧ allMeet (upto p q l a))
      (fun H2 e2 => ⟨⟨.non, _, _, _, rfl, rfl⟩, e1.trans e2, fun r hr => nomatch hr⟩) (fun a σ' H' ha pr => ?_) (fun σ' H' pr => ?_)
    · obtain ⟨⟨v, y4, y5, y6, rfl, hv⟩, e, hm⟩ := pr
      refine s_forR1 (n := ((q.length : Nat) : Int)) (ea_cons (ev_lenS (p := q) (ev_var rfl) (by omega)) ea_nil) (by omega)
        (fun b σ H'' => (∃ v y5 y6, σ = [some (.str (txt p)), some (.str (txt q)), some (.bl l), some v, some (.int (a : Nat)), y5, y6] ∧ isBest K H'' v ((upto p q l a ++ rowA p q l a b).foldl stp none)) ∧ Ex H H'' ∧ allMeet (upto p q l a ++ rowA p q l a b))
        (fun H2 e2 => ⟨⟨v, _, _, rfl, by
          have : upto p q l a ++ rowA p q l a 0 = upto p q l a := by simp [rowA]
          rw [this]
          exact hv.up e2⟩, e.trans e2, by
          have : upto p q l a ++ rowA p q l a 0 = upto p q l a := by simp [rowA]
          rw [this]
          exact hm⟩) (fun b σ'' H'' hb pr => ?_) (fun σ'' H'' pr => ?_)
      · obtain ⟨⟨v, y5, y6, rfl, hv⟩, e, hm⟩ := pr
        refine q_asg (v := oV (first p q l a b)) (ev_call (ea_cons (ev_var rfl) (ea_cons (ev_var rfl) (ea_cons (ev_var rfl) (ea_cons (ev_var rfl) (ea_cons (ev_var rfl) ea_nil))))) fun H1 e Q k E => ⟨p, q, a, b, l, rfl, ⟨hp, hp2⟩, ⟨hq, hq2⟩, k⟩) fun H3 e3 => ?_
        refine q_when (b := (first p q l a b).isNone) (et_is (et_test (ev_isN (ev_var rfl))) (oV_is _)) (fun hn H4 e4 => ?_) (fun hn H4 e4 => ?_)
        · have hf : first p q l a b = none := by simpa using hn
          refine s_retC (K := K) (c := cRow (none, a, b)) (ec_tup (ea_cons ev_c (ea_cons (ev_var rfl) (ea_cons (ev_var rfl) ea_nil))) (by show 3 ≤ 1000; decide)) fun w H5 e5 i5 => ?_
          have hw := worst_never (p := p) (q := q) (l := l) (a := a) (b := b) (by omega) (by omega) (allMeet_app.mp hm).1 (allMeet_app.mp hm).2 hf
          have := k w H5 (((e.trans e3).trans e4).trans e5)
          rw [hw] at this
          exact this i5
        · obtain ⟨m, hf⟩ : ∃ m, first p q l a b = some m := by
            cases h : first p q l a b with
            | none => rw [h] at hn; cases hn
            | some m => exact ⟨m, rfl⟩
          have hv4 := (hv.up e3).up e4
          have hstep : (upto p q l a ++ rowA p q l a (b + 1)).foldl stp none = stp ((upto p q l a ++ rowA p q l a b).foldl stp none) (some m, a, b) := by
            rw [rowA_succ, ← List.append_assoc, List.foldl_append, hf]
            rfl
          have hmeet : allMeet (upto p q l a ++ rowA p q l a (b + 1)) := by
            rw [rowA_succ, ← List.append_assoc]
            refine allMeet_app.mpr ⟨hm, fun r hr => ?_⟩
            have : r = (first p q l a b, a, b) := by simpa using hr
            rw [this, hf]
            exact fun h => nomatch h
          have hE : Ex H H4 := (e.trans e3).trans e4
          cases hbest : (upto p q l a ++ rowA p q l a b).foldl stp none with
          | none =>
            rw [hbest] at hv4 hstep
            have hvn : v = .non := hv4
            subst hvn
            refine s_when (b := true) (et_is (et_or (a := true) (b := true) (et_is (et_test (ev_isN (x := .non) (ev_var rfl))) rfl) (fun h => nomatch h)) rfl) (fun _ H5 e5 => ?_) (fun h => nomatch h)
            refine s_asgC (K := K) (c := .t [oV (first p q l a b), .int (a : Nat), .int (b : Nat)]) (ec_tup (ea_cons (ev_var rfl) (ea_cons (ev_var rfl) (ea_cons (ev_var rfl) ea_nil))) (by show 3 ≤ 1000; decide)) fun w H6 e6 i6 => ?_
            rw [hf] at i6
            refine ⟨⟨w, _, _, rfl, ?_⟩, (hE.trans e5).trans e6, hmeet⟩
            rw [hstep]
            exact ⟨(fun h => nomatch h), i6⟩
          | some r =>
            rw [hbest] at hv4 hstep
            obtain ⟨hr1, hr2⟩ := hv4
            obtain ⟨o, ra, rb⟩ := r
            obtain ⟨m0, rfl⟩ : ∃ m0, o = some m0 := by
              cases o with
              | none => exact absurd rfl hr1
              | some m0 => exact ⟨m0, rfl⟩
            obtain ⟨t, rfl, ht⟩ := id hr2
            refine s_when (b := decide (m0 < m)) (et_is (et_or (a := false) (b := decide (((m0 : Nat) : Int) < (m : Nat))) (et_is (et_test (ev_isN (x := .ref t) (ev_var rfl))) rfl) (fun _ => et_test (ev_op (x := .int (m : Nat)) (ev_is (ev_var rfl) (by rw [hf]; rfl)) (ev_ixC (i := 0) (K := K) (ec_var rfl hr2) ev_c rfl) rv_I0))) (by rw [Bool.false_or]; exact decide_eq_decide.mpr (by omega))) (fun hb5 H5 e5 => ?_) (fun hb5 H5 e5 => ?_)
            · refine s_asgC (K := K) (c := .t [oV (first p q l a b), .int (a : Nat), .int (b : Nat)]) (ec_tup (ea_cons (ev_var rfl) (ea_cons (ev_var rfl) (ea_cons (ev_var rfl) ea_nil))) (by show 3 ≤ 1000; decide)) fun w H6 e6 i6 => ?_
              rw [hf] at i6
              refine ⟨⟨w, _, _, rfl, ?_⟩, (hE.trans e5).trans e6, hmeet⟩
              rw [hstep]
              have : stp (some (some m0, ra, rb)) (some m, a, b) = some (some m, a, b) := if_pos (of_decide_eq_true hb5)
              rw [this]
              exact ⟨(fun h => nomatch h), i6⟩
            · refine ⟨⟨_, _, _, rfl, ?_⟩, hE.trans e5, hmeet⟩
              rw [hstep]
              have : stp (some (some m0, ra, rb)) (some m, a, b) = some (some m0, ra, rb) := if_neg (of_decide_eq_false hb5)
              rw [this]
              exact ⟨hr1, hr2.up e5⟩
      · obtain ⟨⟨v, y5, y6, rfl, hv⟩, e, hm⟩ := pr
        have e0 : upto p q l a ++ rowA p q l a (((q.length : Nat) : Int)).toNat = upto p q l (a + 1) := by rw [upto_succ]; rfl
        rw [e0] at hv hm
        exact ⟨⟨v, _, _, _, rfl, hv⟩, e, hm⟩
    · obtain ⟨⟨v, y4, y5, y6, rfl, hv⟩, e, hm⟩ := pr
      have hm : allMeet (rows p q l) := hm
      have hv : isBest K H' v ((rows p q l).foldl stp none) := hv
      have hw := worst_all hm
      have hne : rows p q l ≠ [] := by
        have := worst_mem (p := p) (q := q) (l := l) hp hq
        intro h
        rw [h] at this
        cases this
      cases hb : (rows p q l).foldl stp none with
      | none =>
        cases hr : rows p q l with
        | nil => exact absurd hr hne
        | cons r rs =>
          rw [hr, List.foldl_cons] at hb
          have hb : rs.foldl stp (some r) = none := hb
          rw [foldl_best] at hb
          cases hb
      | some r =>
        rw [hb] at hv hw
        have hw : worst p q l = r := hw
        refine s_retC (K := K) (ec_var rfl hv.2) fun u H2 e2 i2 => ?_
        have := k u H2 (e.trans e2)
        rw [hw] at this
        exact this i2
/-! ### worst -/
abbrev s_worst : Stmt := topS 25
theorem sc_worst : FnScope ["one", "other", "loose"] ["one", "other", "loose"] (defScope s_worst) := ⟨rfl, rfl, rfl, by decide +kernel, rfl, by decide +kernel, by decide +kernel⟩
def spWorstP (K : PySem.W.Frag) : Sp := fun vs H Q _ => ∃ (p q : List Bool) (l : Bool), vs = [.str (txt p), .str (txt q), .bl l] ∧ Pat 12 p ∧ Pat 12 q ∧ RetC K (cRow (worst p q l)) H Q
theorem ok_worst (D : Def1 K mg "worst" s_worst) (c_need_pattern : Cal P w K mg base 2 "need_pattern" ["pattern"] spNeedP) (c_worst_of : Cal P w K mg base 3 "worst_of" ["one", "other", "loose"] (spWorst K)) : Cal P w K mg base 4 "worst" ["one", "other", "loose"] (spWorstP K) := by
  refine D.cal sc_worst (fun _ _ _ _ _ _ us hl => match us, hl with | [_, _, _], _ => rfl) (fun vs H Q E h => ?_) (fun f cdv A outer s H vs Q E hr h => ?_)
  · obtain ⟨p, q, l, rfl, _⟩ := h
    rfl
  · obtain ⟨p, q, l, rfl, hp, hq, k⟩ := h
    refine ⟨_, (pss_cons (ps_expr (pe_callC c_need_pattern hr (by decide) (pa_cons (pv 0) pa_nil)))
 (pss_cons (ps_expr (pe_callC c_need_pattern hr (by decide) (pa_cons (pv 1) pa_nil)))
 (pss_one (ps_ret (pe_callC c_worst_of hr (by decide) (pa_cons (pv 0) (pa_cons (pv 1) (pa_cons (pv 2) pa_nil)))))))), ?_⟩
    have hp1 := hp.hi
    have hq1 := hq.hi
    have hp0 := hp.lo
    have hq0 := hq.lo
    refine q_drop (v := .non) (ev_call (ea_cons (ev_var rfl) ea_nil) fun H1 e Q k E => ⟨p, rfl, hp, k⟩) fun H1 e1 => ?_
    refine q_drop (v := .non) (ev_call (ea_cons (ev_var rfl) ea_nil) fun H1 e Q k E => ⟨q, rfl, hq, k⟩) fun H2 e2 => ?_
    exact s_retC (K := K) (ec_call (c := cRow (worst p q l)) (ea_cons (ev_var rfl) (ea_cons (ev_var rfl) (ea_cons (ev_var rfl) ea_nil))) fun H1 e Q k => ⟨p, q, l, rfl, ⟨by omega, by omega⟩, ⟨by omega, by omega⟩, k⟩) fun v H3 e3 i3 => k v H3 ((e1.trans e2).trans e3) i3
/-! ### partner -/
abbrev s_partner : Stmt := topS 34
theorem sc_partner : FnScope ["one", "beats", "within", "many", "pattern"] ["one", "beats", "within"] (defScope s_partner) := ⟨rfl, rfl, rfl, by decide +kernel, rfl, by decide +kernel, by decide +kernel⟩
/-! ### fewest -/
abbrev s_fewest : Stmt := topS 30
theorem sc_fewest : FnScope ["beats", "many", "pattern"] ["beats"] (defScope s_fewest) := ⟨rfl, rfl, rfl, by decide +kernel, rfl, by decide +kernel, by decide +kernel⟩
/-! ### paper -/
abbrev s_paper : Stmt := topS 32
theorem sc_paper : FnScope ["beats", "many", "pattern"] ["beats"] (defScope s_paper) := ⟨rfl, rfl, rfl, by decide +kernel, rfl, by decide +kernel, by decide +kernel⟩
/-! ### shows -/
abbrev s_shows : Stmt := topS 33
theorem sc_shows : FnScope ["beats", "many", "told", "pattern", "by", "some", "row", "at"] ["beats", "many", "told"] (defScope s_shows) := ⟨rfl, rfl, rfl, by decide +kernel, rfl, by decide +kernel, by decide +kernel⟩
end
end Bm
namespace Bm
open PySem PySem.Spec PyProof.Rows L2 Evl
section
variable {P : Program} {w : World} {K : PySem.W.Frag} {mg : PySem.Str → Option Value} {base : Heap}
/-! ### +inits -/
def clsBody (st : Stmt) : List Stmt := match st with
  | .ClassDef _ _ _ b _ _ _ _ _ _ _ => b
  | _ => []
abbrev s_iP : Stmt := (clsBody (topS 2)).getD 0 (.Pass ⟨0, 0, 0, 0⟩)
abbrev s_iO : Stmt := (clsBody (topS 4)).getD 0 (.Pass ⟨0, 0, 0, 0⟩)
theorem sc_iP : FnScope ["self", "at"] ["self", "at"] (defScope s_iP) := ⟨rfl, rfl, rfl, by decide +kernel, rfl, by decide +kernel, by decide +kernel⟩
theorem sc_iO : FnScope ["self", "number"] ["self", "number"] (defScope s_iO) := ⟨rfl, rfl, rfl, by decide +kernel, rfl, by decide +kernel, by decide +kernel⟩
theorem ok_iP (D : Ini K (cPt K) "BadPattern.__init__" s_iP) (T : Errs K mg) : CalI P w K mg base (cPt K) "at" := by
  obtain ⟨fd, F⟩ := D.ex
  refine ⟨fd, ["self", "at"], F.ok sc_iP (fun vs H Q E h => ?_) (fun cdv A outer s H vs Q E hr h => ?_), F.bindsN fun _ _ _ _ _ _ us hl => match us, hl with | [_, _], _ => rfl⟩
  · obtain ⟨a, v, rfl, _⟩ := h
    rfl
  · obtain ⟨a, v, rfl, ha, k⟩ := h
    refine ⟨_, PSs.nox (pss_cons (ps_expr (pe_ownInit (by rfl) T.gM T.iM (pa_cons (pv 0) (pa_cons (pv 1) pa_nil)))) (pss_one (ps_ost (pv 0) (pv 1)))), ?_⟩
    exact ⟨.ref a, rfl, v, rfl, a, cPt K, [v], rfl, by show 1 ≤ 1000; decide, T.iP.o, ha, v, rfl, .ref a, rfl, a, cPt K, rfl, T.iP.o, T.iP.no, .inl ⟨ha, fun dx hdx hne => k dx hdx hne⟩⟩
theorem ok_iO (D : Ini K (cNo K) "NoPattern.__init__" s_iO) (T : Errs K mg) : CalI P w K mg base (cNo K) "number" := by
  obtain ⟨fd, F⟩ := D.ex
  refine ⟨fd, ["self", "number"], F.ok sc_iO (fun vs H Q E h => ?_) (fun cdv A outer s H vs Q E hr h => ?_), F.bindsN fun _ _ _ _ _ _ us hl => match us, hl with | [_, _], _ => rfl⟩
  · obtain ⟨a, v, rfl, _⟩ := h
    rfl
  · obtain ⟨a, v, rfl, ha, k⟩ := h
    refine ⟨_, PSs.nox (pss_cons (ps_expr (pe_ownInit (by rfl) T.gM T.iM (pa_cons (pv 0) (pa_cons (pv 1) pa_nil)))) (pss_one (ps_ost (pv 0) (pv 1)))), ?_⟩
    exact ⟨.ref a, rfl, v, rfl, a, cNo K, [v], rfl, by show 1 ≤ 1000; decide, T.iO.o, ha, v, rfl, .ref a, rfl, a, cNo K, rfl, T.iO.o, T.iO.no, .inl ⟨ha, fun dx hdx hne => k dx hdx hne⟩⟩
/-! ### +raising -/
def spX_np (K : PySem.W.Frag) : Sp := fun vs H _ E => ∃ (x : PySem.Str) (n : Nat), vs = [.str x] ∧ x.length ≤ 1000 ∧ fault x.cps.toList = some n ∧ RaiseW K (.pat n) H E
theorem ok_X_np (D : Def1 K mg "need_pattern" s_need_pattern) (B : Bl mg) (T : Errs K mg) (iP : CalI P w K mg base (cPt K) "at") (c_fault_of : Cal P w K mg base 1 "fault_of" ["pattern"] spFault) : CalX P w K mg base 3 "need_pattern" ["pattern"] (spX_np K) := by
  refine D.calX sc_need_pattern (fun _ _ _ _ _ _ us hl => match us, hl with | [_], _ => rfl) (fun vs H Q E h => ?_) (fun f cdv A outer s H vs Q E hr h => ?_)
  · obtain ⟨x, n, rfl, _⟩ := h
    rfl
  · obtain ⟨x, n, rfl, hl, hf, k⟩ := h
    refine ⟨_, (pss_cons (ps_set (i := 1) sc_need_pattern.nd rfl (Or.inl rfl) (pe_callC c_fault_of hr (by decide) (pa_cons (pv 0) pa_nil))) (pss_one (ps_if (pt_cmpR op_notN (pv 1) pe_non (nomark _)) (pss_one (L2N.ps_raise rfl (L2N.takes_of rfl rfl rfl rfl) (pmk_err T.iP iP hr (by decide) (by rfl) T.gP (pv 1)))) pss_nil))), ?_⟩
    refine q_asg (v := .int (n : Nat)) (ev_call (ea_cons (ev_var rfl) ea_nil) fun H1 e Q q E => ⟨x, rfl, hl, by rw [hf]; exact q⟩) fun H1 e1 => ?_
    refine s_if (b := true) (et_is (et_test (ev_notN (x := .int (n : Nat)) (ev_var rfl))) rfl) (fun _ H2 e2 => ?_) (fun hb => nomatch hb)
    exact r_mkE (ev_var rfl) fun d H' e hd h' => (k.up (e1.trans e2)) d H' e hd h'
def spX_nb (K : PySem.W.Frag) : Sp := fun vs H _ E => ∃ (b : Int), vs = [.int b] ∧ ¬ (1 ≤ b ∧ b ≤ 12) ∧ RaiseW K .num H E
theorem ok_X_nb (D : Def1 K mg "need_beats" s_need_beats) (B : Bl mg) (T : Errs K mg) (g_MOST_BEATS : ∃ t, mg "MOST_BEATS" = some (.int 12 t)) : CalX P w K mg base 1 "need_beats" ["beats"] (spX_nb K) := by
  refine D.calX sc_need_beats (fun _ _ _ _ _ _ us hl => match us, hl with | [_], _ => rfl) (fun vs H Q E h => ?_) (fun f cdv A outer s H vs Q E hr h => ?_)
  · obtain ⟨b, rfl, _⟩ := h
    rfl
  · obtain ⟨b, rfl, hb, k⟩ := h
    refine ⟨_, (pss_one (ps_if (pt_not (pt_chain op_le op_le pe_int (pv 0) (pe_gI g_MOST_BEATS))) (pss_one (L2N.ps_raise rfl (L2N.takes_of rfl rfl rfl rfl) (L2N.pmk_own PySem.F.excBase_ValueError T.xN T.gN T.kN (raises_own T.bN T.tN) (by rfl)))) pss_nil)), ?_⟩
    refine s_if (b := true) (et_is (et_not (et_test (ev_chain (K := K) ev_c (ev_var rfl) ev_c rv_I0 rv_I0))) ?_) (fun _ H2 e2 => k H2 e2) (fun hb => nomatch hb)
    show (!(decide ((1 : Int) ≤ b) && decide (b ≤ 12))) = true
    rw [← Bool.decide_and, decide_eq_false (by omega)]
    rfl
def spX_nph (K : PySem.W.Frag) : Sp := fun vs H _ E => ∃ (p : List Bool) (b : Int), vs = [.str (txt p), .int b] ∧ p.length ≤ 1000 ∧ ¬ (0 ≤ b ∧ b < (p.length : Nat)) ∧ RaiseW K .num H E
theorem ok_X_nph (D : Def1 K mg "need_phase" s_need_phase) (B : Bl mg) (T : Errs K mg)  : CalX P w K mg base 1 "need_phase" ["pattern", "phase"] (spX_nph K) := by
  refine D.calX sc_need_phase (fun _ _ _ _ _ _ us hl => match us, hl with | [_, _], _ => rfl) (fun vs H Q E h => ?_) (fun f cdv A outer s H vs Q E hr h => ?_)
  · obtain ⟨p, b, rfl, _⟩ := h
    rfl
  · obtain ⟨p, b, rfl, hl, hb, k⟩ := h
    refine ⟨_, (pss_one (ps_if (pt_not (pt_chain op_le op_lt pe_int (pv 1) (pe_callB call_len_str (by rfl) B.len PySem.boot_len (pa_cons (pv 0) pa_nil)))) (pss_one (L2N.ps_raise rfl (L2N.takes_of rfl rfl rfl rfl) (L2N.pmk_own PySem.F.excBase_ValueError T.xN T.gN T.kN (raises_own T.bN T.tN) (by rfl)))) pss_nil)), ?_⟩
    refine s_if (b := true) (et_is (et_not (et_test (ev_chain (K := K) ev_c (ev_var rfl) (ev_lenS (p := p) (ev_var rfl) hl) rv_I0 rv_I0))) ?_) (fun _ H2 e2 => k H2 e2) (fun hb => nomatch hb)
    show (!(decide ((0 : Int) ≤ b) && decide (b < (p.length : Nat)))) = true
    rw [← Bool.decide_and, decide_eq_false (by omega)]
    rfl
def spX_awake (K : PySem.W.Frag) : Sp := fun vs H _ E => ∃ (x : PySem.Str) (n : Nat), vs = [.str x] ∧ x.length ≤ 1000 ∧ fault x.cps.toList = some n ∧ RaiseW K (.pat n) H E
theorem ok_X_awake (D : Def1 K mg "awake" s_awake) (B : Bl mg) (T : Errs K mg) (x_need_pattern : CalX P w K mg base 3 "need_pattern" ["pattern"] (spX_np K)) : CalX P w K mg base 4 "awake" ["pattern"] (spX_awake K) := by
  refine D.calX sc_awake (fun _ _ _ _ _ _ us hl => match us, hl with | [_], _ => rfl) (fun vs H Q E h => ?_) (fun f cdv A outer s H vs Q E hr h => ?_)
  · obtain ⟨x, n, rfl, _⟩ := h
    rfl
  · obtain ⟨x, n, rfl, hl, hf, k⟩ := h
    refine ⟨_, (pss_cons (ps_expr (pe_callX x_need_pattern hr (by decide) (L2N.passes_call (L2N.takes_of rfl rfl rfl rfl) fun _ _ _ _ h => h) (pa_cons (pv 0) pa_nil))) pss_never), ?_⟩
    exact r_qdrop (r_call (ea_cons (ev_var rfl) (ea_nil)) fun H1 e1 => ⟨x, n, rfl, hl, hf, k.up e1⟩)
def spX_turned1 (K : PySem.W.Frag) : Sp := fun vs H _ E => ∃ (x : PySem.Str) (n : Nat) (v1 : V), vs = [.str x, v1] ∧ x.length ≤ 1000 ∧ fault x.cps.toList = some n ∧ RaiseW K (.pat n) H E
theorem ok_X_turned1 (D : Def1 K mg "turned" s_turned) (B : Bl mg) (T : Errs K mg) (x_need_pattern : CalX P w K mg base 3 "need_pattern" ["pattern"] (spX_np K)) : CalX P w K mg base 4 "turned" ["pattern", "by"] (spX_turned1 K) := by
  refine D.calX sc_turned (fun _ _ _ _ _ _ us hl => match us, hl with | [_, _], _ => rfl) (fun vs H Q E h => ?_) (fun f cdv A outer s H vs Q E hr h => ?_)
  · obtain ⟨x, n, v1, rfl, _⟩ := h
    rfl
  · obtain ⟨x, n, v1, rfl, hl, hf, k⟩ := h
    refine ⟨_, (pss_cons (ps_expr (pe_callX x_need_pattern hr (by decide) (L2N.passes_call (L2N.takes_of rfl rfl rfl rfl) fun _ _ _ _ h => h) (pa_cons (pv 0) pa_nil))) pss_never), ?_⟩
    exact r_qdrop (r_call (ea_cons (ev_var rfl) (ea_nil)) fun H1 e1 => ⟨x, n, rfl, hl, hf, k.up e1⟩)
def spX_least (K : PySem.W.Frag) : Sp := fun vs H _ E => ∃ (x : PySem.Str) (n : Nat), vs = [.str x] ∧ x.length ≤ 1000 ∧ fault x.cps.toList = some n ∧ RaiseW K (.pat n) H E
theorem ok_X_least (D : Def1 K mg "least_turn" s_least_turn) (B : Bl mg) (T : Errs K mg) (x_need_pattern : CalX P w K mg base 3 "need_pattern" ["pattern"] (spX_np K)) : CalX P w K mg base 4 "least_turn" ["pattern"] (spX_least K) := by
  refine D.calX sc_least_turn (fun _ _ _ _ _ _ us hl => match us, hl with | [_], _ => rfl) (fun vs H Q E h => ?_) (fun f cdv A outer s H vs Q E hr h => ?_)
  · obtain ⟨x, n, rfl, _⟩ := h
    rfl
  · obtain ⟨x, n, rfl, hl, hf, k⟩ := h
    refine ⟨_, (pss_cons (ps_expr (pe_callX x_need_pattern hr (by decide) (L2N.passes_call (L2N.takes_of rfl rfl rfl rfl) fun _ _ _ _ h => h) (pa_cons (pv 0) pa_nil))) pss_never), ?_⟩
    exact r_qdrop (r_call (ea_cons (ev_var rfl) (ea_nil)) fun H1 e1 => ⟨x, n, rfl, hl, hf, k.up e1⟩)
def spX_worst1 (K : PySem.W.Frag) : Sp := fun vs H _ E => ∃ (x : PySem.Str) (n : Nat) (v1 v2 : V), vs = [.str x, v1, v2] ∧ x.length ≤ 1000 ∧ fault x.cps.toList = some n ∧ RaiseW K (.pat n) H E
theorem ok_X_worst1 (D : Def1 K mg "worst" s_worst) (B : Bl mg) (T : Errs K mg) (x_need_pattern : CalX P w K mg base 3 "need_pattern" ["pattern"] (spX_np K)) : CalX P w K mg base 4 "worst" ["one", "other", "loose"] (spX_worst1 K) := by
  refine D.calX sc_worst (fun _ _ _ _ _ _ us hl => match us, hl with | [_, _, _], _ => rfl) (fun vs H Q E h => ?_) (fun f cdv A outer s H vs Q E hr h => ?_)
  · obtain ⟨x, n, v1, v2, rfl, _⟩ := h
    rfl
  · obtain ⟨x, n, v1, v2, rfl, hl, hf, k⟩ := h
    refine ⟨_, (pss_cons (ps_expr (pe_callX x_need_pattern hr (by decide) (L2N.passes_call (L2N.takes_of rfl rfl rfl rfl) fun _ _ _ _ h => h) (pa_cons (pv 0) pa_nil))) pss_never), ?_⟩
    exact r_qdrop (r_call (ea_cons (ev_var rfl) (ea_nil)) fun H1 e1 => ⟨x, n, rfl, hl, hf, k.up e1⟩)
def spX_fm1 (K : PySem.W.Frag) : Sp := fun vs H _ E => ∃ (x : PySem.Str) (n : Nat) (v1 v2 v3 v4 : V), vs = [.str x, v1, v2, v3, v4] ∧ x.length ≤ 1000 ∧ fault x.cps.toList = some n ∧ RaiseW K (.pat n) H E
theorem ok_X_fm1 (D : Def1 K mg "first_meet" s_first_meet) (B : Bl mg) (T : Errs K mg) (x_need_pattern : CalX P w K mg base 3 "need_pattern" ["pattern"] (spX_np K)) : CalX P w K mg base 4 "first_meet" ["one", "a", "other", "b", "loose"] (spX_fm1 K) := by
  refine D.calX sc_first_meet (fun _ _ _ _ _ _ us hl => match us, hl with | [_, _, _, _, _], _ => rfl) (fun vs H Q E h => ?_) (fun f cdv A outer s H vs Q E hr h => ?_)
  · obtain ⟨x, n, v1, v2, v3, v4, rfl, _⟩ := h
    rfl
  · obtain ⟨x, n, v1, v2, v3, v4, rfl, hl, hf, k⟩ := h
    refine ⟨_, (pss_cons (ps_expr (pe_callX x_need_pattern hr (by decide) (L2N.passes_call (L2N.takes_of rfl rfl rfl rfl) fun _ _ _ _ h => h) (pa_cons (pv 0) pa_nil))) pss_never), ?_⟩
    exact r_qdrop (r_call (ea_cons (ev_var rfl) (ea_nil)) fun H1 e1 => ⟨x, n, rfl, hl, hf, k.up e1⟩)
def spX_partner1 (K : PySem.W.Frag) : Sp := fun vs H _ E => ∃ (x : PySem.Str) (n : Nat) (v1 v2 : V), vs = [.str x, v1, v2] ∧ x.length ≤ 1000 ∧ fault x.cps.toList = some n ∧ RaiseW K (.pat n) H E
theorem ok_X_partner1 (D : Def1 K mg "partner" s_partner) (B : Bl mg) (T : Errs K mg) (x_need_pattern : CalX P w K mg base 3 "need_pattern" ["pattern"] (spX_np K)) : CalX P w K mg base 4 "partner" ["one", "beats", "within"] (spX_partner1 K) := by
  refine D.calX sc_partner (fun _ _ _ _ _ _ us hl => match us, hl with | [_, _, _], _ => rfl) (fun vs H Q E h => ?_) (fun f cdv A outer s H vs Q E hr h => ?_)
  · obtain ⟨x, n, v1, v2, rfl, _⟩ := h
    rfl
  · obtain ⟨x, n, v1, v2, rfl, hl, hf, k⟩ := h
    refine ⟨_, (pss_cons (ps_expr (pe_callX x_need_pattern hr (by decide) (L2N.passes_call (L2N.takes_of rfl rfl rfl rfl) fun _ _ _ _ h => h) (pa_cons (pv 0) pa_nil))) pss_never), ?_⟩
    exact r_qdrop (r_call (ea_cons (ev_var rfl) (ea_nil)) fun H1 e1 => ⟨x, n, rfl, hl, hf, k.up e1⟩)
def spX_fewest (K : PySem.W.Frag) : Sp := fun vs H _ E => ∃ (b : Int), vs = [.int b] ∧ ¬ (1 ≤ b ∧ b ≤ 12) ∧ RaiseW K .num H E
theorem ok_X_fewest (D : Def1 K mg "fewest" s_fewest) (B : Bl mg) (T : Errs K mg) (x_need_beats : CalX P w K mg base 1 "need_beats" ["beats"] (spX_nb K)) : CalX P w K mg base 2 "fewest" ["beats"] (spX_fewest K) := by
  refine D.calX sc_fewest (fun _ _ _ _ _ _ us hl => match us, hl with | [_], _ => rfl) (fun vs H Q E h => ?_) (fun f cdv A outer s H vs Q E hr h => ?_)
  · obtain ⟨b, rfl, _⟩ := h
    rfl
  · obtain ⟨b, rfl, hb, k⟩ := h
    refine ⟨_, (pss_cons (ps_expr (pe_callX x_need_beats hr (by decide) (L2N.passes_call (L2N.takes_of rfl rfl rfl rfl) fun _ _ _ _ h => h) (pa_cons (pv 0) pa_nil))) pss_never), ?_⟩
    exact r_qdrop (r_call (ea_cons (ev_var rfl) (ea_nil)) fun H1 e1 => ⟨b, rfl, hb, k.up e1⟩)
def spX_shows1 (K : PySem.W.Frag) : Sp := fun vs H _ E => ∃ (b : Int) (v1 v2 : V), vs = [.int b, v1, v2] ∧ ¬ (1 ≤ b ∧ b ≤ 12) ∧ RaiseW K .num H E
theorem ok_X_shows1 (D : Def1 K mg "shows" s_shows) (B : Bl mg) (T : Errs K mg) (x_need_beats : CalX P w K mg base 1 "need_beats" ["beats"] (spX_nb K)) : CalX P w K mg base 2 "shows" ["beats", "many", "told"] (spX_shows1 K) := by
  refine D.calX sc_shows (fun _ _ _ _ _ _ us hl => match us, hl with | [_, _, _], _ => rfl) (fun vs H Q E h => ?_) (fun f cdv A outer s H vs Q E hr h => ?_)
  · obtain ⟨b, v1, v2, rfl, _⟩ := h
    rfl
  · obtain ⟨b, v1, v2, rfl, hb, k⟩ := h
    refine ⟨_, (pss_cons (ps_expr (pe_callX x_need_beats hr (by decide) (L2N.passes_call (L2N.takes_of rfl rfl rfl rfl) fun _ _ _ _ h => h) (pa_cons (pv 0) pa_nil))) pss_never), ?_⟩
    exact r_qdrop (r_call (ea_cons (ev_var rfl) (ea_nil)) fun H1 e1 => ⟨b, rfl, hb, k.up e1⟩)
def spX_paper (K : PySem.W.Frag) : Sp := fun vs H _ E => ∃ (b : Int), vs = [.int b] ∧ ¬ (1 ≤ b ∧ b ≤ 12) ∧ RaiseW K .num H E
theorem ok_X_paper (D : Def1 K mg "paper" s_paper) (B : Bl mg) (T : Errs K mg) (x_fewest : CalX P w K mg base 2 "fewest" ["beats"] (spX_fewest K)) : CalX P w K mg base 3 "paper" ["beats"] (spX_paper K) := by
  refine D.calX sc_paper (fun _ _ _ _ _ _ us hl => match us, hl with | [_], _ => rfl) (fun vs H Q E h => ?_) (fun f cdv A outer s H vs Q E hr h => ?_)
  · obtain ⟨b, rfl, _⟩ := h
    rfl
  · obtain ⟨b, rfl, hb, k⟩ := h
    refine ⟨_, (pss_cons (ps_set (i := 1) sc_paper.nd rfl (Or.inl rfl) (pe_ix ix_tup (pe_callX x_fewest hr (by decide) (L2N.passes_call (L2N.takes_of rfl rfl rfl rfl) fun _ _ _ _ h => h) (pa_cons (pv 0) pa_nil)) pe_int (fun _ _ => rfl))) pss_never), ?_⟩
    exact r_qasg (r_op2 (r_call (ea_cons (ev_var rfl) ea_nil) fun H1 e1 => ⟨b, rfl, hb, k.up e1⟩))
def spX_turned2 (K : PySem.W.Frag) : Sp := fun vs H _ E => ∃ (p : List Bool) (b : Int), vs = [.str (txt p), .int b] ∧ Pat 12 p ∧ ¬ (0 ≤ b ∧ b < (p.length : Nat)) ∧ RaiseW K .num H E
theorem ok_X_turned2 (D : Def1 K mg "turned" s_turned) (B : Bl mg) (T : Errs K mg) (c_need_pattern : Cal P w K mg base 2 "need_pattern" ["pattern"] spNeedP) (x_need_phase : CalX P w K mg base 1 "need_phase" ["pattern", "phase"] (spX_nph K)) : CalX P w K mg base 3 "turned" ["pattern", "by"] (spX_turned2 K) := by
  refine D.calX sc_turned (fun _ _ _ _ _ _ us hl => match us, hl with | [_, _], _ => rfl) (fun vs H Q E h => ?_) (fun f cdv A outer s H vs Q E hr h => ?_)
  · obtain ⟨p, b, rfl, _⟩ := h
    rfl
  · obtain ⟨p, b, rfl, hp, hb, k⟩ := h
    refine ⟨_, (pss_cons (ps_expr (pe_callC c_need_pattern hr (by decide) (pa_cons (pv 0) pa_nil))) (pss_cons (ps_expr (pe_callX x_need_phase hr (by decide) (L2N.passes_call (L2N.takes_of rfl rfl rfl rfl) fun _ _ _ _ h => h) (pa_cons (pv 0) (pa_cons (pv 1) pa_nil)))) pss_never)), ?_⟩
    refine q_drop (v := .non) (ev_call (ea_cons (ev_var rfl) ea_nil) fun H1 e Q q E => ⟨p, rfl, hp, q⟩) fun H1 e1 => ?_
    exact r_qdrop (r_call (ea_cons (ev_var rfl) (ea_cons (ev_var rfl) (ea_nil))) fun Hz ez => ⟨p, b, rfl, by have := hp.hi; omega, hb, (k.up (e1.trans ez))⟩)
def spX_worst2 (K : PySem.W.Frag) : Sp := fun vs H _ E => ∃ (p : List Bool) (x : PySem.Str) (n : Nat) (v2 : V), vs = [.str (txt p), .str x, v2] ∧ Pat 12 p ∧ x.length ≤ 1000 ∧ fault x.cps.toList = some n ∧ RaiseW K (.pat n) H E
theorem ok_X_worst2 (D : Def1 K mg "worst" s_worst) (B : Bl mg) (T : Errs K mg) (c_need_pattern : Cal P w K mg base 2 "need_pattern" ["pattern"] spNeedP) (x_need_pattern : CalX P w K mg base 3 "need_pattern" ["pattern"] (spX_np K)) : CalX P w K mg base 4 "worst" ["one", "other", "loose"] (spX_worst2 K) := by
  refine D.calX sc_worst (fun _ _ _ _ _ _ us hl => match us, hl with | [_, _, _], _ => rfl) (fun vs H Q E h => ?_) (fun f cdv A outer s H vs Q E hr h => ?_)
  · obtain ⟨p, x, n, v2, rfl, _⟩ := h
    rfl
  · obtain ⟨p, x, n, v2, rfl, hp, hl, hf, k⟩ := h
    refine ⟨_, (pss_cons (ps_expr (pe_callC c_need_pattern hr (by decide) (pa_cons (pv 0) pa_nil))) (pss_cons (ps_expr (pe_callX x_need_pattern hr (by decide) (L2N.passes_call (L2N.takes_of rfl rfl rfl rfl) fun _ _ _ _ h => h) (pa_cons (pv 1) pa_nil))) pss_never)), ?_⟩
    refine q_drop (v := .non) (ev_call (ea_cons (ev_var rfl) ea_nil) fun H1 e Q q E => ⟨p, rfl, hp, q⟩) fun H1 e1 => ?_
    exact r_qdrop (r_call (ea_cons (ev_var rfl) (ea_nil)) fun Hz ez => ⟨x, n, rfl, hl, hf, (k.up (e1.trans ez))⟩)
def spX_fm2 (K : PySem.W.Frag) : Sp := fun vs H _ E => ∃ (p : List Bool) (b : Int) (v2 v3 v4 : V), vs = [.str (txt p), .int b, v2, v3, v4] ∧ Pat 12 p ∧ ¬ (0 ≤ b ∧ b < (p.length : Nat)) ∧ RaiseW K .num H E
theorem ok_X_fm2 (D : Def1 K mg "first_meet" s_first_meet) (B : Bl mg) (T : Errs K mg) (c_need_pattern : Cal P w K mg base 2 "need_pattern" ["pattern"] spNeedP) (x_need_phase : CalX P w K mg base 1 "need_phase" ["pattern", "phase"] (spX_nph K)) : CalX P w K mg base 3 "first_meet" ["one", "a", "other", "b", "loose"] (spX_fm2 K) := by
  refine D.calX sc_first_meet (fun _ _ _ _ _ _ us hl => match us, hl with | [_, _, _, _, _], _ => rfl) (fun vs H Q E h => ?_) (fun f cdv A outer s H vs Q E hr h => ?_)
  · obtain ⟨p, b, v2, v3, v4, rfl, _⟩ := h
    rfl
  · obtain ⟨p, b, v2, v3, v4, rfl, hp, hb, k⟩ := h
    refine ⟨_, (pss_cons (ps_expr (pe_callC c_need_pattern hr (by decide) (pa_cons (pv 0) pa_nil))) (pss_cons (ps_expr (pe_callX x_need_phase hr (by decide) (L2N.passes_call (L2N.takes_of rfl rfl rfl rfl) fun _ _ _ _ h => h) (pa_cons (pv 0) (pa_cons (pv 1) pa_nil)))) pss_never)), ?_⟩
    refine q_drop (v := .non) (ev_call (ea_cons (ev_var rfl) ea_nil) fun H1 e Q q E => ⟨p, rfl, hp, q⟩) fun H1 e1 => ?_
    exact r_qdrop (r_call (ea_cons (ev_var rfl) (ea_cons (ev_var rfl) (ea_nil))) fun Hz ez => ⟨p, b, rfl, by have := hp.hi; omega, hb, (k.up (e1.trans ez))⟩)
def spX_fm3 (K : PySem.W.Frag) : Sp := fun vs H _ E => ∃ (p : List Bool) (a : Nat) (x : PySem.Str) (n : Nat) (v3 v4 : V), vs = [.str (txt p), .int (a : Nat), .str x, v3, v4] ∧ Pat 12 p ∧ a < p.length ∧ x.length ≤ 1000 ∧ fault x.cps.toList = some n ∧ RaiseW K (.pat n) H E
theorem ok_X_fm3 (D : Def1 K mg "first_meet" s_first_meet) (B : Bl mg) (T : Errs K mg) (c_need_pattern : Cal P w K mg base 2 "need_pattern" ["pattern"] spNeedP) (c_need_phase : Cal P w K mg base 1 "need_phase" ["pattern", "phase"] spNeedPh) (x_need_pattern : CalX P w K mg base 3 "need_pattern" ["pattern"] (spX_np K)) : CalX P w K mg base 4 "first_meet" ["one", "a", "other", "b", "loose"] (spX_fm3 K) := by
  refine D.calX sc_first_meet (fun _ _ _ _ _ _ us hl => match us, hl with | [_, _, _, _, _], _ => rfl) (fun vs H Q E h => ?_) (fun f cdv A outer s H vs Q E hr h => ?_)
  · obtain ⟨p, a, x, n, v3, v4, rfl, _⟩ := h
    rfl
  · obtain ⟨p, a, x, n, v3, v4, rfl, hp, ha, hl, hf, k⟩ := h
    refine ⟨_, (pss_cons (ps_expr (pe_callC c_need_pattern hr (by decide) (pa_cons (pv 0) pa_nil))) (pss_cons (ps_expr (pe_callC c_need_phase hr (by decide) (pa_cons (pv 0) (pa_cons (pv 1) pa_nil)))) (pss_cons (ps_expr (pe_callX x_need_pattern hr (by decide) (L2N.passes_call (L2N.takes_of rfl rfl rfl rfl) fun _ _ _ _ h => h) (pa_cons (pv 2) pa_nil))) pss_never))), ?_⟩
    refine q_drop (v := .non) (ev_call (ea_cons (ev_var rfl) ea_nil) fun H1 e Q q E => ⟨p, rfl, hp, q⟩) fun H1 e1 => ?_
    refine q_drop (v := .non) (ev_call (ea_cons (ev_var rfl) (ea_cons (ev_var rfl) ea_nil)) fun H1 e Q q E => ⟨p, a, rfl, by have := hp.hi; omega, ha, q⟩) fun H2 e2 => ?_
    exact r_qdrop (r_call (ea_cons (ev_var rfl) (ea_nil)) fun Hz ez => ⟨x, n, rfl, hl, hf, (k.up ((e1.trans e2).trans ez))⟩)
def spX_fm4 (K : PySem.W.Frag) : Sp := fun vs H _ E => ∃ (p : List Bool) (a : Nat) (q : List Bool) (b : Int) (v4 : V), vs = [.str (txt p), .int (a : Nat), .str (txt q), .int b, v4] ∧ Pat 12 p ∧ a < p.length ∧ Pat 12 q ∧ ¬ (0 ≤ b ∧ b < (q.length : Nat)) ∧ RaiseW K .num H E
theorem ok_X_fm4 (D : Def1 K mg "first_meet" s_first_meet) (B : Bl mg) (T : Errs K mg) (c_need_pattern : Cal P w K mg base 2 "need_pattern" ["pattern"] spNeedP) (c_need_phase : Cal P w K mg base 1 "need_phase" ["pattern", "phase"] spNeedPh) (x_need_phase : CalX P w K mg base 1 "need_phase" ["pattern", "phase"] (spX_nph K)) : CalX P w K mg base 3 "first_meet" ["one", "a", "other", "b", "loose"] (spX_fm4 K) := by
  refine D.calX sc_first_meet (fun _ _ _ _ _ _ us hl => match us, hl with | [_, _, _, _, _], _ => rfl) (fun vs H Q E h => ?_) (fun f cdv A outer s H vs Q E hr h => ?_)
  · obtain ⟨p, a, q, b, v4, rfl, _⟩ := h
    rfl
  · obtain ⟨p, a, q, b, v4, rfl, hp, ha, hq, hb, k⟩ := h
    refine ⟨_, (pss_cons (ps_expr (pe_callC c_need_pattern hr (by decide) (pa_cons (pv 0) pa_nil))) (pss_cons (ps_expr (pe_callC c_need_phase hr (by decide) (pa_cons (pv 0) (pa_cons (pv 1) pa_nil)))) (pss_cons (ps_expr (pe_callC c_need_pattern hr (by decide) (pa_cons (pv 2) pa_nil))) (pss_cons (ps_expr (pe_callX x_need_phase hr (by decide) (L2N.passes_call (L2N.takes_of rfl rfl rfl rfl) fun _ _ _ _ h => h) (pa_cons (pv 2) (pa_cons (pv 3) pa_nil)))) pss_never)))), ?_⟩
    refine q_drop (v := .non) (ev_call (ea_cons (ev_var rfl) ea_nil) fun H1 e Q q E => ⟨p, rfl, hp, q⟩) fun H1 e1 => ?_
    refine q_drop (v := .non) (ev_call (ea_cons (ev_var rfl) (ea_cons (ev_var rfl) ea_nil)) fun H1 e Q q E => ⟨p, a, rfl, by have := hp.hi; omega, ha, q⟩) fun H2 e2 => ?_
    refine q_drop (v := .non) (ev_call (ea_cons (ev_var rfl) ea_nil) fun H1 e Q kk E => ⟨q, rfl, hq, kk⟩) fun H3 e3 => ?_
    exact r_qdrop (r_call (ea_cons (ev_var rfl) (ea_cons (ev_var rfl) (ea_nil))) fun Hz ez => ⟨q, b, rfl, by have := hq.hi; omega, hb, (k.up (((e1.trans e2).trans e3).trans ez))⟩)
def spX_partner2 (K : PySem.W.Frag) : Sp := fun vs H _ E => ∃ (p : List Bool) (b : Int) (v2 : V), vs = [.str (txt p), .int b, v2] ∧ Pat 12 p ∧ ¬ (1 ≤ b ∧ b ≤ 12) ∧ RaiseW K .num H E
theorem ok_X_partner2 (D : Def1 K mg "partner" s_partner) (B : Bl mg) (T : Errs K mg) (c_need_pattern : Cal P w K mg base 2 "need_pattern" ["pattern"] spNeedP) (x_need_beats : CalX P w K mg base 1 "need_beats" ["beats"] (spX_nb K)) : CalX P w K mg base 3 "partner" ["one", "beats", "within"] (spX_partner2 K) := by
  refine D.calX sc_partner (fun _ _ _ _ _ _ us hl => match us, hl with | [_, _, _], _ => rfl) (fun vs H Q E h => ?_) (fun f cdv A outer s H vs Q E hr h => ?_)
  · obtain ⟨p, b, v2, rfl, _⟩ := h
    rfl
  · obtain ⟨p, b, v2, rfl, hp, hb, k⟩ := h
    refine ⟨_, (pss_cons (ps_expr (pe_callC c_need_pattern hr (by decide) (pa_cons (pv 0) pa_nil))) (pss_cons (ps_expr (pe_callX x_need_beats hr (by decide) (L2N.passes_call (L2N.takes_of rfl rfl rfl rfl) fun _ _ _ _ h => h) (pa_cons (pv 1) pa_nil))) pss_never)), ?_⟩
    refine q_drop (v := .non) (ev_call (ea_cons (ev_var rfl) ea_nil) fun H1 e Q q E => ⟨p, rfl, hp, q⟩) fun H1 e1 => ?_
    exact r_qdrop (r_call (ea_cons (ev_var rfl) (ea_nil)) fun Hz ez => ⟨b, rfl, hb, (k.up (e1.trans ez))⟩)
def spX_partner3 (K : PySem.W.Frag) : Sp := fun vs H _ E => ∃ (p : List Bool) (m : Nat) (b : Int), vs = [.str (txt p), .int (m : Nat), .int b] ∧ Pat 12 p ∧ (1 ≤ m ∧ m ≤ 12) ∧ ¬ (0 ≤ b ∧ b ≤ 143) ∧ RaiseW K .num H E
theorem ok_X_partner3 (D : Def1 K mg "partner" s_partner) (B : Bl mg) (T : Errs K mg) (c_need_pattern : Cal P w K mg base 2 "need_pattern" ["pattern"] spNeedP) (c_need_beats : Cal P w K mg base 1 "need_beats" ["beats"] spNeedB) (g_MOST_WITHIN : ∃ t, mg "MOST_WITHIN" = some (.int 143 t)) : CalX P w K mg base 3 "partner" ["one", "beats", "within"] (spX_partner3 K) := by
  refine D.calX sc_partner (fun _ _ _ _ _ _ us hl => match us, hl with | [_, _, _], _ => rfl) (fun vs H Q E h => ?_) (fun f cdv A outer s H vs Q E hr h => ?_)
  · obtain ⟨p, m, b, rfl, _⟩ := h
    rfl
  · obtain ⟨p, m, b, rfl, hp, hm, hb, k⟩ := h
    refine ⟨_, (pss_cons (ps_expr (pe_callC c_need_pattern hr (by decide) (pa_cons (pv 0) pa_nil))) (pss_cons (ps_expr (pe_callC c_need_beats hr (by decide) (pa_cons (pv 1) pa_nil))) (pss_cons (ps_if (pt_not (pt_chain op_le op_le pe_int (pv 2) (pe_gI g_MOST_WITHIN))) (pss_one (L2N.ps_raise rfl (L2N.takes_of rfl rfl rfl rfl) (L2N.pmk_own PySem.F.excBase_ValueError T.xN T.gN T.kN (raises_own T.bN T.tN) (by rfl)))) pss_nil) pss_never))), ?_⟩
    refine q_drop (v := .non) (ev_call (ea_cons (ev_var rfl) ea_nil) fun H1 e Q q E => ⟨p, rfl, hp, q⟩) fun H1 e1 => ?_
    refine q_drop (v := .non) (ev_call (ea_cons (ev_var rfl) ea_nil) fun H1 e Q q E => ⟨m, rfl, hm.1, hm.2, q⟩) fun H2 e2 => ?_
    refine q_when (b := true) (et_is (et_not (et_test (ev_chain (K := K) ev_c (ev_var rfl) ev_c rv_I0 rv_I0))) ?_) (fun _ Hz ez => k Hz ((e1.trans e2).trans ez)) (fun hb => nomatch hb)
    show (!(decide ((0 : Int) ≤ b) && decide (b ≤ 143))) = true
    rw [← Bool.decide_and, decide_eq_false (by omega)]
    rfl
def spX_shows2 (K : PySem.W.Frag) : Sp := fun vs H _ E => ∃ (m : Nat) (b : Int) (v2 : V), vs = [.int (m : Nat), .int b, v2] ∧ (1 ≤ m ∧ m ≤ 12) ∧ ¬ (0 ≤ b ∧ b ≤ (m : Nat)) ∧ RaiseW K .num H E
theorem ok_X_shows2 (D : Def1 K mg "shows" s_shows) (B : Bl mg) (T : Errs K mg) (c_need_beats : Cal P w K mg base 1 "need_beats" ["beats"] spNeedB) : CalX P w K mg base 2 "shows" ["beats", "many", "told"] (spX_shows2 K) := by
  refine D.calX sc_shows (fun _ _ _ _ _ _ us hl => match us, hl with | [_, _, _], _ => rfl) (fun vs H Q E h => ?_) (fun f cdv A outer s H vs Q E hr h => ?_)
  · obtain ⟨m, b, v2, rfl, _⟩ := h
    rfl
  · obtain ⟨m, b, v2, rfl, hm, hb, k⟩ := h
    refine ⟨_, (pss_cons (ps_expr (pe_callC c_need_beats hr (by decide) (pa_cons (pv 0) pa_nil))) (pss_cons (ps_if (pt_not (pt_chain op_le op_le pe_int (pv 1) (pv 0))) (pss_one (L2N.ps_raise rfl (L2N.takes_of rfl rfl rfl rfl) (L2N.pmk_own PySem.F.excBase_ValueError T.xN T.gN T.kN (raises_own T.bN T.tN) (by rfl)))) pss_nil) pss_never)), ?_⟩
    refine q_drop (v := .non) (ev_call (ea_cons (ev_var rfl) ea_nil) fun H1 e Q q E => ⟨m, rfl, hm.1, hm.2, q⟩) fun H1 e1 => ?_
    refine q_when (b := true) (et_is (et_not (et_test (ev_chain (K := K) ev_c (ev_var rfl) (ev_var rfl) rv_I0 rv_I0))) ?_) (fun _ Hz ez => k Hz (e1.trans ez)) (fun hb => nomatch hb)
    show (!(decide ((0 : Int) ≤ b) && decide (b ≤ (m : Nat)))) = true
    rw [← Bool.decide_and, decide_eq_false (by omega)]
    rfl
end
end Bm
namespace Bm
open PySem PySem.Spec PyProof.Rows L2 Evl
section
variable {P : Program} {w : World} {K : PySem.W.Frag} {mg : PySem.Str → Option Value} {base : Heap}
/-! ### is_better -/
abbrev s_is_better : Stmt := topS 36
theorem sc_is_better : FnScope ["one", "other", "mine", "theirs"] ["one", "other"] (defScope s_is_better) := ⟨rfl, rfl, rfl, by decide +kernel, rfl, by decide +kernel, by decide +kernel⟩
theorem ok_is_better (D : Def1 K mg "is_better" s_is_better) : Cal P w K mg base 1 "is_better" ["one", "other"] (spBetter K) := by
  refine D.cal sc_is_better (fun _ _ _ _ _ _ us hl => match us, hl with | [_, _], _ => rfl) (fun vs H Q E h => ?_) (fun f cdv A outer s H vs Q E hr h => ?_)
  · obtain ⟨v, u, r, s, rfl, _⟩ := h
    rfl
  · obtain ⟨v, u, r, s, rfl, iv, iu, ⟨sr, ss⟩, ⟨br, bs⟩, k⟩ := h
    refine ⟨_, (pss_cons (ps_set (i := 2) sc_is_better.nd rfl (Or.inl rfl) (pe_op op_mul (pe_ix ix_tup (pv 0) pe_int (fun _ _ => rfl)) (pe_ix ix_tup (pv 1) pe_int (fun _ _ => rfl))))
 (pss_cons (ps_set (i := 3) sc_is_better.nd rfl (Or.inl rfl) (pe_op op_mul (pe_ix ix_tup (pv 1) pe_int (fun _ _ => rfl)) (pe_ix ix_tup (pv 0) pe_int (fun _ _ => rfl))))
 (pss_one (ps_ret (pe_and (pe_cmpR op_le (pv 2) (pv 3) (nomark _)) (pe_and (pe_cmpR op_le (pe_ix ix_tup (pv 0) pe_int (fun _ _ => rfl)) (pe_ix ix_tup (pv 1) pe_int (fun _ _ => rfl)) (nomark _)) (pe_one (pe_or (pe_cmpR op_lt (pv 2) (pv 3) (nomark _)) (pe_one (pe_cmpR op_lt (pe_ix ix_tup (pv 0) pe_int (fun _ _ => rfl)) (pe_ix ix_tup (pv 1) pe_int (fun _ _ => rfl)) (nomark _))))))))))), ?_⟩
    have x0 : ∀ {H' : Hp} {y z : Option V}, Ex H H' → EvC K (tVar 0) [some v, some u, y, z] H' (cR r) := fun e => ec_var rfl (iv.up e)
    have x1 : ∀ {H' : Hp} {y z : Option V}, Ex H H' → EvC K (tVar 1) [some v, some u, y, z] H' (cR s) := fun e => ec_var rfl (iu.up e)
    refine q_asg (v := .int ((r.1 * s.2.1 : Nat) : Int)) (ev_mulN (ev_ixC (i := 0) (x0 (Ex.refl H)) ev_c rfl) (ev_ixC (i := 1) (x1 (Ex.refl H)) ev_c rfl) (by omega)) fun H1 e1 => ?_
    refine q_asg (v := .int ((s.1 * r.2.1 : Nat) : Int)) (ev_mulN (ev_ixC (i := 0) (x1 e1) ev_c rfl) (ev_ixC (i := 1) (x0 e1) ev_c rfl) (by omega)) fun H2 e2 => ?_
    have e12 := e1.trans e2
    have w0 : ∀ {H' : Hp} {y z : Option V}, Ex H H' → Ev (tOp (rIxT K) (tVar 0) (tC (.int 2))) [some v, some u, y, z] H' (.int (r.2.2.getD 0 : Nat)) := fun e => ev_ixC (i := 2) (x0 e) ev_c (by rw [← oV_get sr]; rfl)
    have w1 : ∀ {H' : Hp} {y z : Option V}, Ex H H' → Ev (tOp (rIxT K) (tVar 1) (tC (.int 2))) [some v, some u, y, z] H' (.int (s.2.2.getD 0 : Nat)) := fun e => ev_ixC (i := 2) (x1 e) ev_c (by rw [← oV_get ss]; rfl)
    refine s_ret (v := .bl (bett r s)) (ev_is (ev_andV (ev_op (ev_var rfl) (ev_var rfl) rv_I0) (fun _ => ev_andV (ev_op (w0 e12) (w1 e12) rv_I0) (fun _ => ev_orV (ev_op (ev_var rfl) (ev_var rfl) rv_I0) (fun _ => ev_op (w0 e12) (w1 e12) rv_I0)))) ?_) fun H3 e3 => k H3 (e12.trans e3)
    have d1 : ∀ a b : Nat, decide (((a : Nat) : Int) ≤ (b : Nat)) = decide (a ≤ b) := fun a b => decide_eq_decide.mpr (by omega)
    have d2 : ∀ a b : Nat, decide (((a : Nat) : Int) < (b : Nat)) = decide (a < b) := fun a b => decide_eq_decide.mpr (by omega)
    unfold bett
    rw [d1, d1, d2, d2]
end
end Bm
namespace Bm
open PySem PySem.Spec PyProof.Rows L2 Evl
section
variable {P : Program} {w : World} {K : PySem.W.Frag} {mg : PySem.Str → Option Value} {base : Heap}
/-! ### front -/
abbrev s_front : Stmt := topS 35
theorem sc_front : FnScope ["patterns", "number", "pattern", "rows", "some", "one", "other"] ["patterns"] (defScope s_front) := ⟨rfl, rfl, rfl, by decide +kernel, rfl, by decide +kernel, by decide +kernel⟩
def spFront (K : PySem.W.Frag) : Sp := fun vs H Q _ => ∃ (a : Addr) (ps : List (List Bool)), vs = [.ref a] ∧ SqL K H a (ps.map fun p => V.str (txt p)) ∧ (∀ p ∈ ps, Pat 12 p) ∧ ps.length ≤ 1000 ∧ RetL (natsV (frontL (ps.map rowOf))) H Q
theorem rowOf_lo {p : List Bool} (h : Pat 12 p) : (rowOf p).1 ≤ 1000 := by
  show (onesV p).length ≤ 1000
  have := onesV_len p
  have := h.hi
  omega
theorem getD_rows (ps : List (List Bool)) (k : Nat) (hk : k < ps.length) : ((ps.map rowOf).map cR)[k]? = some (cR ((ps.map rowOf).getD k r0)) := by
  rw [List.getElem?_map, List.getD_eq_getElem?_getD, List.getElem?_map, List.getElem?_eq_getElem hk]
  rfl
theorem rows_lo {ps : List (List Bool)} (hp : ∀ p ∈ ps, Pat 12 p) (k : Nat) : ((ps.map rowOf).getD k r0).1 ≤ 1000 := by
  rw [List.getD_eq_getElem?_getD, List.getElem?_map]
  cases h : ps[k]? with
  | none => exact Nat.zero_le _
  | some p => exact rowOf_lo (hp p (List.mem_of_getElem? h))
theorem rows_pos {ps : List (List Bool)} (hp : ∀ p ∈ ps, Pat 12 p) : ∀ k, k < (ps.map rowOf).length → 0 < ((ps.map rowOf).getD k r0).2.1 := fun k hk => by
  rw [List.length_map] at hk
  rw [List.getD_eq_getElem?_getD, List.getElem?_map, List.getElem?_eq_getElem hk]
  exact (hp _ (List.getElem_mem hk)).lo
theorem nats_at {ks : List Nat} {i : Nat} {c : Cel} (h : ((natsV ks).map Cel.v)[i]? = some c) : ∃ k, ks[i]? = some k ∧ c = .v (.int (k : Nat)) := by
  unfold natsV at h
  rw [List.map_map, List.getElem?_map] at h
  cases e : ks[i]? with
  | none => rw [e] at h; cases h
  | some k => rw [e] at h; exact ⟨k, rfl, (Option.some.inj h).symm⟩
theorem nats_ok (ks : List Nat) : ((natsV ks).map Cel.v).all okC = true := by
  unfold natsV
  rw [List.map_map, List.all_map, List.all_eq_true]
  intro _ _
  rfl
theorem given_nats (ks : List Nat) (F : Nat → Bool) : givenC ((natsV ks).map Cel.v).length (fun i => F (ks.getD i 0)) (fun i => ((natsV ks).map Cel.v).getD i (.v .non)) = (natsV (ks.filter F)).map Cel.v := by
  unfold givenC natsV
  rw [List.length_map, List.length_map]
  have er : ks = (List.range ks.length).map fun i => ks.getD i 0 := by
    apply List.ext_getElem
    · simp
    · intro i h1 h2
      simp [List.getD_eq_getElem?_getD, List.getElem?_eq_getElem h1]
  have er2 : ks.filter F = ((List.range ks.length).filter fun i => F (ks.getD i 0)).map fun i => ks.getD i 0 := by
    conv => lhs; rw [er]
    rw [List.filter_map]
    rfl
  rw [er2, List.map_map, List.map_map, List.map_map]
  refine List.map_congr_left fun i hi => ?_
  have hi : i < ks.length := by
    have := (List.mem_filter.mp hi).1
    simpa using this
  show (ks.map (Cel.v ∘ fun k : Nat => V.int (k : Nat))).getD i (.v .non) = .v (.int (ks.getD i 0 : Nat))
  rw [List.getD_eq_getElem?_getD, List.getD_eq_getElem?_getD, List.getElem?_map, List.getElem?_eq_getElem hi]
  rfl
theorem sure_given (rs : List R3) : given rs.length (fun k => (rs.getD k r0).2.2.isSome) (fun k => .int (k : Nat)) = natsV (sure rs) := rfl
theorem ok_front (D : Def1 K mg "front" s_front) (B : Bl mg) (c_fault_of : Cal P w K mg base 1 "fault_of" ["pattern"] spFault) (c_awake_of : Cal P w K mg base 1 "awake_of" ["pattern"] spOnes) (c_worst_of : Cal P w K mg base 3 "worst_of" ["one", "other", "loose"] (spWorst K)) (c_is_better : Cal P w K mg base 1 "is_better" ["one", "other"] (spBetter K)) :
    Cal P w K mg base 4 "front" ["patterns"] (spFront K) := by
  refine D.cal sc_front (fun _ _ _ _ _ _ us hl => match us, hl with | [_], _ => rfl) (fun vs H Q E h => ?_) (fun f cdv A outer s H vs Q E hr h => ?_)
  · obtain ⟨a, ps, rfl, _⟩ := h
    rfl
  · obtain ⟨a, ps, rfl, hS, hp, hl, k⟩ := h
    refine ⟨_, (pss_cons (ps_for PassesOwn.never rfl (pi_enum (by rfl) B.enumerate (pa_cons (pv 0) pa_nil)) (pg_tup rfl (pgs_cons (pg_name (i := 1) sc_front.nd rfl (Or.inl rfl)) (pgs_cons (pg_name (i := 2) sc_front.nd rfl (Or.inl rfl)) pgs_nil)))
 (pss_one (ps_if (pt_cmpR op_notN (pe_callC c_fault_of hr (by decide) (pa_cons (pv 2) pa_nil)) pe_non (nomark _)) pss_never
 pss_nil)))
 (pss_cons (ps_set (i := 3) sc_front.nd rfl (Or.inr rfl) (pe_lc (own := [("one", 5)]) (g := gName 5) rfl sc_front.nd (pi_list (pv 0)) (blkOk_by (N := ["patterns", "number", "pattern", "rows", "some", "one", "other"]) (sc := defScope s_front) (by decide +kernel)) (fun _ _ _ _ _ => (pg_name (i := 5) sc_front.nd rfl (Or.inl rfl))) (fun _ _ _ _ _ => pts_nil) (fun _ _ _ _ _ => (pe_tup (pa_cons (pe_callB (r := rLenS K) call_len_seq (by rfl) B.len PySem.boot_len (pa_cons (pe_callC c_awake_of hr (by decide) (pa_cons (pv 5) pa_nil)) pa_nil)) (pa_cons (pe_callB call_len_str (by rfl) B.len PySem.boot_len (pa_cons (pv 5) pa_nil)) (pa_cons (pe_ix (r := rIxT K) ix_tup (pe_callC c_worst_of hr (by decide) (pa_cons (pv 5) (pa_cons (pv 5) (pa_cons pe_bl pa_nil)))) pe_int (fun _ _ => rfl)) pa_nil)))))))
 (pss_cons (ps_set (i := 4) sc_front.nd rfl (Or.inr rfl) (pe_lc (own := [("number", 1)]) (g := gName 1) rfl sc_front.nd (pi_range1 (by rfl) B.range (pa_cons (pe_callB call_len_seq (by rfl) B.len PySem.boot_len (pa_cons (pv 0) pa_nil)) pa_nil)) (blkOk_by (N := ["patterns", "number", "pattern", "rows", "some", "one", "other"]) (sc := defScope s_front) (by decide +kernel)) (fun _ _ _ _ _ => (pg_name (i := 1) sc_front.nd rfl (Or.inl rfl))) (fun _ _ _ _ _ => (pts_one (pt_cmpR op_notN (pe_ix (r := rIxT K) ix_tup (pe_ix (r := rIxL K) ix_list (pv 3) (pv 1) (fun _ _ => rfl)) pe_int (fun _ _ => rfl)) pe_non (nomark _)))) (fun _ _ _ _ _ => (pv 1))))
 (pss_one (ps_ret (pe_lc (own := [("number", 1)]) (g := gName 1) rfl sc_front.nd (pi_list (pv 4)) (blkOk_by (N := ["patterns", "number", "pattern", "rows", "some", "one", "other"]) (sc := defScope s_front) (by decide +kernel)) (fun _ _ _ _ _ => (pg_name (i := 1) sc_front.nd rfl (Or.inr rfl))) (fun _ _ _ _ _ => (pts_one (pt_cmpR (r := rEqD K) (op_eqD hr.units) (pe_lc (own := [("other", 6)]) (g := gName 6) rfl sc_front.nd (pi_listK K rfl (pv 4)) (blkOk_by (by rfl)) (fun _ _ _ _ _ => (pg_name (i := 6) sc_front.nd rfl (Or.inl rfl))) (fun _ _ _ _ _ => (pts_one (pt_val (pe_callC c_is_better hr (by decide) (pa_cons (pe_ix (r := rIxL K) ix_list (pv 3) (pv 6) (fun _ _ => rfl)) (pa_cons (pe_ix (r := rIxL K) ix_list (pv 3) (pv 1) (fun _ _ => rfl)) pa_nil)))))) (fun _ _ _ _ _ => (pv 6))) (pe_lst pa_nil) (nomark _)))) (fun _ _ _ _ _ => (pv 1)))))))), ?_⟩
    have hget : ∀ (i : Nat) (x : V), (ps.map fun p => V.str (txt p))[i]? = some x → ∃ p, ps[i]? = some p ∧ x = V.str (txt p) := fun i x h => by
      rw [List.getElem?_map] at h
      cases e : ps[i]? with
      | none => rw [e] at h; cases h
      | some p => rw [e] at h; exact ⟨p, rfl, (Option.some.inj h).symm⟩
    refine s_forEL (K := K) (D := { nx := _, rt := _ }) (ea_cons (ev_var rfl) ea_nil) hS (fun i σ H' => (∃ y1 y2, σ = [some (.ref a), y1, y2, none, none, none, none]) ∧ Ex H H') (fun H1 e => ⟨⟨_, _, rfl⟩, e⟩) (fun i σ' H' _ p => ex_l p.2 hS) (fun i T x σ' H' hx p hT => ?_) (fun σ' H' p => ?_)
    · obtain ⟨⟨y1, y2, rfl⟩, e⟩ := p
      obtain ⟨q, hq, rfl⟩ := hget i x hx
      have hq := hp q (List.mem_of_getElem? hq)
      have hq1 := hq.hi
      refine g_two ?_
      exact s_when (b := false) (et_is (et_test (ev_notN (x := .non) (ev_call (ea_cons (ev_var rfl) ea_nil) fun H1 e Q k E => ⟨txt q, rfl, by rw [txt_len]; omega, by rw [fault_txt hq]; exact k⟩))) rfl) (fun hb => nomatch hb) (fun _ H2 e2 => ⟨⟨_, _, rfl⟩, (e.trans (Ex.new hT)).trans e2⟩)
    · obtain ⟨⟨y1, y2, rfl⟩, e⟩ := p
      -- rows
      have hall : IsAll K H' (ps.map fun p => V.str (txt p)) (ps.map fun p => Cel.v (.str (txt p))) := by
        have := vals_pr (K := K) (H := H') (ps.map fun p => V.str (txt p))
        rw [List.map_map] at this
        exact this
      have en := en_lcL (K := K) (t := tYes) (te := tTup (tCons (tCB (rLenS K) (tCons (tCall spOnes [] E0 (tCons (tVar 5) tNil)) tNil)) (tCons (tCB rLenStr (tCons (tVar 5) tNil)) (tCons (tOp (rIxT K) (tCall (spWorst K) [] E0 (tCons (tVar 5) (tCons (tVar 5) (tCons (tC (.bl false)) tNil)))) (tC (.int 0))) tNil)))) (tl := tVar 0) (a := a) (cs := ps.map fun p => Cel.v (.str (txt p))) (j := 5) (vs := [5]) (σ := [some (.ref a), y1, y2, none, none, none, none]) (H := H') (fun _ => true) (fun i => cR ((ps.map rowOf).getD i r0))
        (ev_var rfl) (ex_l e hS) hall (by rw [List.length_map]; omega) (fun _ => rfl) (fun i x c H3 e3 hc hi => fun H4 e4 Q q => q H4 (Ex.refl H4)) (fun i x c H3 e3 hc hi _ => by
          rw [List.getElem?_map] at hc
          cases hpi : ps[i]? with
          | none => rw [hpi] at hc; cases hc
          | some q =>
            rw [hpi] at hc
            cases hc
            have hx : x = .str (txt q) := hi
            subst hx
            have hq := hp q (List.mem_of_getElem? hpi)
            have hq0 := hq.lo
            have hq1 := hq.hi
            have er : (ps.map rowOf).getD i r0 = rowOf q := by
              rw [List.getD_eq_getElem?_getD, List.getElem?_map, hpi]
              rfl
            rw [er]
            exact ec_tup (ea_cons (ev_lenN (K := K) (xs := onesV q) (el_call (ea_cons (ev_var rfl) ea_nil) fun H1 e Q k E => ⟨q, rfl, by omega, k⟩)) (ea_cons (ev_lenS (p := q) (ev_var rfl) (by omega)) (ea_cons (ev_ixC (i := 0) (K := K) (ec_call (c := cRow (worst q q false)) (ea_cons (ev_var rfl) (ea_cons (ev_var rfl) (ea_cons ev_c ea_nil))) fun H1 e Q k => ⟨q, q, false, rfl, ⟨by omega, by omega⟩, ⟨by omega, by omega⟩, k⟩) ev_c rfl) ea_nil))) (by show 3 ≤ 1000; decide))
      have e0 : givenC (ps.map fun p => Cel.v (.str (txt p))).length (fun _ => true) (fun i => cR ((ps.map rowOf).getD i r0)) = (ps.map rowOf).map cR := by
        unfold givenC
        rw [List.filter_eq_self.mpr (fun _ _ => rfl), List.length_map]
        apply List.ext_getElem
        · simp
        · intro i h1 h2
          have hi : i < ps.length := by simpa using h1
          simp [List.getD_eq_getElem?_getD, List.getElem?_eq_getElem hi]
      rw [e0] at en
      refine q_asgN (K := K) en fun rl rx H1 _ e1 h1 i1 => ?_
      have e01 := e.trans e1
      -- some
      have el := el_lcR1 (ta := tCons (tCB (rLenS K) (tCons (tVar 0) tNil)) tNil) (t := tTest (tOp rNotN (tOp (rIxT K) (tOp (rIxL K) (tVar 3) (tVar 1)) (tC (.int 2))) (tC .non))) (te := tVar 1) (j := 1) (vs := [1]) (σ := [some (.ref a), y1, y2, some (.ref rl), none, none, none]) (H := H1) (n := ((ps.length : Nat) : Int)) (fun k => ((ps.map rowOf).getD k r0).2.2.isSome) (fun k => .int (k : Nat))
        (ea_cons (ev_is (ev_len (K := K) (ev_var rfl) (ex_l e01 hS)) (by rw [List.length_map])) ea_nil) (by omega) (fun _ => rfl) (fun i H3 e3 hb => by
          refine et_is (et_test (ev_notN (ev_ixC (i := 2) (K := K) (v := oV ((ps.map rowOf).getD i r0).2.2) (ec_ixL (K := K) (ev_var rfl) (sq_of (e3 _ _ h1)) (i1.up e3) (ev_var rfl) (getD_rows ps i (by omega))) ev_c rfl))) ?_
          rw [oV_is]
          cases ((ps.map rowOf).getD i r0).2.2 <;> rfl) (fun i H3 e3 hb _ => ev_var rfl)
      have e0s : given (((ps.length : Nat) : Int)).toNat (fun k => ((ps.map rowOf).getD k r0).2.2.isSome) (fun k => .int (k : Nat)) = natsV (sure (ps.map rowOf)) := by
        have := sure_given (ps.map rowOf)
        rw [List.length_map] at this
        exact this
      rw [e0s] at el
      refine q_asgL el fun sl H2 _ e2 h2 => ?_
      have e02 := e01.trans e2
      have hsl : (natsV (sure (ps.map rowOf))).length ≤ 1000 := by
        unfold natsV sure
        rw [List.length_map]
        have := List.length_filter_le (fun k => ((ps.map rowOf).getD k r0).2.2.isSome) (List.range (ps.map rowOf).length)
        have h2 : (List.range (ps.map rowOf).length).length = ps.length := by simp
        omega
      have hsure : ∀ {i k : Nat}, (sure (ps.map rowOf))[i]? = some k → k < ps.length ∧ ((ps.map rowOf).getD k r0).2.2.isSome = true := fun h => by
        have := mem_sure.mp (List.mem_of_getElem? h)
        rw [List.length_map] at this
        exact this
      have inner : ∀ (kk : Nat) (H3 : Hp) (y2 : Option V), Ex H2 H3 → kk < ps.length → ((ps.map rowOf).getD kk r0).2.2.isSome = true → EvN K (tLc (iList K (tVar 4)) (gName 6) (tB (tCall (spBetter K) [] E0 (tCons (tOp (rIxL K) (tVar 3) (tVar 6)) (tCons (tOp (rIxL K) (tVar 3) (tVar 1)) tNil)))) (tVar 6) [6]) [some (.ref a), some (.int (kk : Nat)), y2, some (.ref rl), some (.ref sl), none, none] H3 ((natsV ((sure (ps.map rowOf)).filter fun j => bett ((ps.map rowOf).getD j r0) ((ps.map rowOf).getD kk r0))).map Cel.v) := fun kk H3 y2 e3 hkk hsk => by
        have en2 := en_lcL (K := K) (t := tB (tCall (spBetter K) [] E0 (tCons (tOp (rIxL K) (tVar 3) (tVar 6)) (tCons (tOp (rIxL K) (tVar 3) (tVar 1)) tNil)))) (te := tVar 6) (tl := tVar 4) (a := sl) (xs := natsV (sure (ps.map rowOf))) (cs := (natsV (sure (ps.map rowOf))).map Cel.v) (j := 6) (vs := [6]) (σ := [some (.ref a), some (.int (kk : Nat)), y2, some (.ref rl), some (.ref sl), none, none]) (H := H3) (fun i => bett ((ps.map rowOf).getD ((sure (ps.map rowOf)).getD i 0) r0) ((ps.map rowOf).getD kk r0)) (fun i => ((natsV (sure (ps.map rowOf))).map Cel.v).getD i (.v .non))
          (ev_var rfl) (sq_of (e3 _ _ h2)) (vals_pr _) (by rw [List.length_map]; omega) (fun _ => rfl) (fun i x c H4 e4 hc hi => by
            obtain ⟨jj, hjj, rfl⟩ := nats_at hc
            have hx : x = .int (jj : Nat) := hi
            subst hx
            have eg : (sure (ps.map rowOf)).getD i 0 = jj := by
              rw [List.getD_eq_getElem?_getD, hjj]
              rfl
            rw [eg]
            obtain ⟨hj1, hj2⟩ := hsure hjj
            have e14 := (e2.trans e3).trans e4
            refine et_B (ev_callC2 (K := K) (c := cR ((ps.map rowOf).getD jj r0)) (c' := cR ((ps.map rowOf).getD kk r0)) (ec_ixL (K := K) (ev_var rfl) (sq_of (e14 _ _ h1)) (i1.up e14) (ev_var rfl) (getD_rows ps jj hj1)) (fun H5 e5 => ec_ixL (K := K) (ev_var rfl) (sq_of ((e14.trans e5) _ _ h1)) (i1.up (e14.trans e5)) (ev_var rfl) (getD_rows ps kk hkk)) fun v w H5 e5 iv iw H6 e6 Q k E => ⟨v, w, _, _, rfl, iv.up e6, iw.up e6, ⟨hj2, hsk⟩, ⟨rows_lo hp _, rows_lo hp _⟩, k⟩)) (fun i x c H4 e4 hc hi _ => by
            rw [List.getD_eq_getElem?_getD, hc]
            exact ec_var rfl hi)
        rw [given_nats (sure (ps.map rowOf)) (fun j => bett ((ps.map rowOf).getD j r0) ((ps.map rowOf).getD kk r0))] at en2
        exact en2
      have en3 := en_lcL (K := K) (t := tTest (tOp (rEqD K) (tLc (iList K (tVar 4)) (gName 6) (tB (tCall (spBetter K) [] E0 (tCons (tOp (rIxL K) (tVar 3) (tVar 6)) (tCons (tOp (rIxL K) (tVar 3) (tVar 1)) tNil)))) (tVar 6) [6]) (tLst tNil))) (te := tVar 1) (tl := tVar 4) (a := sl) (xs := natsV (sure (ps.map rowOf))) (cs := (natsV (sure (ps.map rowOf))).map Cel.v) (j := 1) (vs := [1]) (σ := [some (.ref a), y1, y2, some (.ref rl), some (.ref sl), none, none]) (H := H2) (fun i => ((sure (ps.map rowOf)).filter fun j => bett ((ps.map rowOf).getD j r0) ((ps.map rowOf).getD ((sure (ps.map rowOf)).getD i 0) r0)).isEmpty) (fun i => ((natsV (sure (ps.map rowOf))).map Cel.v).getD i (.v .non))
        (ev_var rfl) (sq_of h2) (vals_pr _) (by rw [List.length_map]; omega) (fun _ => rfl) (fun i x c H4 e4 hc hi => by
          obtain ⟨kk, hkk, rfl⟩ := nats_at hc
          have hx : x = .int (kk : Nat) := hi
          subst hx
          have eg : (sure (ps.map rowOf)).getD i 0 = kk := by
            rw [List.getD_eq_getElem?_getD, hkk]
            rfl
          rw [eg]
          obtain ⟨hj1, hj2⟩ := hsure hkk
          refine et_is (et_test (ev_nilN (inner kk H4 y2 e4 hj1 hj2) (nats_ok _))) ?_
          show (((sure (ps.map rowOf)).filter fun j => bett ((ps.map rowOf).getD j r0) ((ps.map rowOf).getD kk r0)).map (fun k => V.int (k : Nat)) |>.map Cel.v).isEmpty = _
          rw [List.isEmpty_map, List.isEmpty_map]) (fun i x c H4 e4 hc hi _ => by
          rw [List.getD_eq_getElem?_getD, hc]
          exact ec_var rfl hi)
      rw [given_nats (sure (ps.map rowOf)) (fun kk => ((sure (ps.map rowOf)).filter fun j => bett ((ps.map rowOf).getD j r0) ((ps.map rowOf).getD kk r0)).isEmpty)] at en3
      exact s_retL (el_en en3) fun p2 H3 hp2 e3 h3 => k p2 H3 (fresh_back e02 hp2) (e02.trans e3) h3
/-! ### +frontx -/
def spX_front (K : PySem.W.Frag) : Sp := fun vs H _ E => ∃ (a : Addr) (zs : List PySem.Str) (n m : Nat) (z : PySem.Str), vs = [.ref a] ∧ SqL K H a (zs.map V.str) ∧ (∀ x ∈ zs, x.length ≤ 1000) ∧ (∀ i x, i < n → zs[i]? = some x → fault x.cps.toList = none) ∧ zs[n]? = some z ∧ fault z.cps.toList = some m ∧ RaiseW K (.non n) H E
theorem ok_X_front (D : Def1 K mg "front" s_front) (B : Bl mg) (T : Errs K mg) (iO : CalI P w K mg base (cNo K) "number") (c_fault_of : Cal P w K mg base 1 "fault_of" ["pattern"] spFault) : CalX P w K mg base 3 "front" ["patterns"] (spX_front K) := by
  refine D.calX sc_front (fun _ _ _ _ _ _ us hl => match us, hl with | [_], _ => rfl) (fun vs H Q E h => ?_) (fun f cdv A outer s H vs Q E hr h => ?_)
  · obtain ⟨a, zs, n, m, z, rfl, _⟩ := h
    rfl
  · obtain ⟨a, zs, n, m, z, rfl, hS, hlen, hgood, hz, hf, k⟩ := h
    refine ⟨_, (pss_cons (ps_for (passes_of rfl) rfl (pi_enum (by rfl) B.enumerate (pa_cons (pv 0) pa_nil)) (pg_tup rfl (pgs_cons (pg_name (i := 1) sc_front.nd rfl (Or.inl rfl)) (pgs_cons (pg_name (i := 2) sc_front.nd rfl (Or.inl rfl)) pgs_nil)))
      (pss_one (ps_if (pt_cmpR op_notN (pe_callC c_fault_of hr (by decide) (pa_cons (pv 2) pa_nil)) pe_non (nomark _)) (pss_one (L2N.ps_raise rfl (L2N.takes_of rfl rfl rfl rfl) (pmk_err T.iO iO hr (by decide) (by rfl) T.gO (pv 1)))) pss_nil))) pss_never), ?_⟩
    have hn : n < zs.length := (List.getElem?_eq_some_iff.mp hz).1
    show tFor _ _ _ _ _ _
    refine s_forEL (K := K) (a := a) (xs := zs.map V.str) (ea_cons (ev_var rfl) ea_nil) hS (fun i σ H' => (∃ y1 y2, σ = [some (.ref a), y1, y2, none, none, none, none]) ∧ Ex H H' ∧ i ≤ n) (fun H1 e => ⟨⟨_, _, rfl⟩, e, Nat.zero_le _⟩) (fun i σ' H' _ pr => ex_l pr.2.1 hS) (fun i t x σ' H' hx pr ht => ?_) (fun σ' H' pr => ?_)
    · obtain ⟨⟨y1, y2, rfl⟩, e1, hi⟩ := pr
      rw [List.getElem?_map] at hx
      cases hzi : zs[i]? with
      | none => rw [hzi] at hx; cases hx
      | some x0 =>
        rw [hzi] at hx
        cases hx
        have e2 := Ex.new (o := .tup [.int (i : Nat), .str x0]) ht
        refine g_two (K := K) ?_
        have hx0 := hlen x0 (List.mem_of_getElem? hzi)
        by_cases hin : i = n
        · subst hin
          rw [hz] at hzi
          cases hzi
          refine s_if (b := true) (et_is (et_test (ev_notN (x := .int (m : Nat)) (ev_call (ea_cons (ev_var rfl) ea_nil) fun H1 e Q q E => ⟨_, rfl, hx0, by rw [hf]; exact q⟩))) rfl) (fun _ H2 e3 => ?_) (fun hb => nomatch hb)
          exact r_mkE (ev_var rfl) fun d H'' e hd h'' => (k.up ((e1.trans e2).trans e3)) d H'' e hd h''
        · have hlt : i < n := by omega
          refine s_when (b := false) (et_is (et_test (ev_notN (x := .non) (ev_call (ea_cons (ev_var rfl) ea_nil) fun H1 e Q q E => ⟨_, rfl, hx0, by rw [hgood i x0 hlt hzi]; exact q⟩))) rfl) (fun hb => nomatch hb) (fun _ H2 e3 => ⟨⟨_, _, rfl⟩, (e1.trans e2).trans e3, hlt⟩)
    · have := pr.2.2
      rw [List.length_map] at this
      omega
end
end Bm
namespace Bm
open PySem PySem.Spec PyProof.Rows L2 Evl
section
variable {P : Program} {w : World} {K : PySem.W.Frag} {mg : PySem.Str → Option Value} {base : Heap}
/-! ### _law_dice -/
abbrev s_law_dice : Stmt := topS 38
theorem sc_law_dice : FnScope ["_law_script", "_law_k", "_law_found", "_law_cell"] ["_law_script", "_law_k"] (defScope s_law_dice) := ⟨rfl, rfl, rfl, by decide +kernel, rfl, by decide +kernel, by decide +kernel⟩
def spDice (K : PySem.W.Frag) : Sp := fun vs H Q _ => ∃ (a : Addr) (ns : List Int) (k : Int), vs = [.ref a, .int k] ∧ SqL K H a (ns.map V.int) ∧ ns.length ≤ 1000 ∧
  ∀ (D : Addr) (ds : List Int) (H2 : Hp), H D = none → Ex H H2 → 2 ≤ ds.length → H2 D = some (.lst (ds.map V.int)) → Q (.ref D) H2
theorem ok_law_dice (D : Def1 K mg "_law_dice" s_law_dice) (B : Bl mg) : Cal P w K mg base 1 "_law_dice" ["_law_script", "_law_k"] (spDice K) := by
  refine D.cal sc_law_dice (fun _ _ _ _ _ _ us hl => match us, hl with | [_, _], _ => rfl) (fun vs H Q E h => ?_) (fun f cdv A outer s H vs Q E hr h => ?_)
  · obtain ⟨a, ns, k, rfl, _⟩ := h
    rfl
  · obtain ⟨a, ns, k, rfl, hS, hl, kk⟩ := h
    refine ⟨_, (pss_cons (ps_set (i := 2) sc_law_dice.nd rfl (Or.inl rfl) (pv 1))
 (pss_cons (ps_for PassesOwn.never rfl (pi_list (pv 0)) (pg_name (i := 3) sc_law_dice.nd rfl (Or.inl rfl))
 (pss_one (ps_set (i := 2) sc_law_dice.nd rfl (Or.inl rfl) (pe_op op_mod (pe_op op_add (pe_op op_mul (pv 2) pe_int) (pe_callB call_abs (by rfl) B.abs (by decide +kernel) (pa_cons (pv 3) pa_nil))) pe_int))))
 (pss_one (ps_ret (pe_op op_cat (pe_lst (pa_cons (pv 2) (pa_cons pe_int pa_nil))) (pe_lc (own := [("_law_cell", 3)]) (g := gName 3) rfl sc_law_dice.nd (pi_list (pv 0)) (blkOk_by (N := ["_law_script", "_law_k", "_law_found", "_law_cell"]) (sc := defScope s_law_dice) (by decide +kernel)) (fun _ _ _ _ _ => (pg_name (i := 3) sc_law_dice.nd rfl (Or.inl rfl))) (fun _ _ _ _ _ => (pts_one (pt_cmpR op_ge (pv 3) (pe_op op_pow pe_int pe_int) (nomark _)))) (fun _ _ _ _ _ => (pv 3)))))))), ?_⟩
    refine q_asg (v := .int k) (ev_var rfl) fun H1 e1 => ?_
    refine q_forLn (a := a) (xs := ns.map V.int) (K := K) (ev_var rfl) (ex_l e1 hS) (fun i σ H' => (∃ z y, σ = [some (.ref a), some (.int k), some (.int z), y]) ∧ Ex H H') (fun H2 e2 => ⟨⟨k, _, rfl⟩, e1.trans e2⟩) (fun i σ' H' _ p => ex_l p.2 hS) (fun i x σ' H' hx p => ?_) (fun σ' H' p => ?_)
    · obtain ⟨⟨z, y, rfl⟩, e⟩ := p
      obtain ⟨m, rfl⟩ : ∃ m, x = V.int m := by
        rw [List.getElem?_map] at hx
        cases h : ns[i]? with
        | none => rw [h] at hx; cases hx
        | some m => rw [h] at hx; exact ⟨m, (Option.some.inj hx).symm⟩
      refine s_asg (ev_op (ev_op (ev_op (ev_var rfl) ev_c (rv_I (Or.inr ⟨by decide, by decide⟩))) (ev_cb (ea_cons (ev_var rfl) ea_nil) fun H1 _ _ q => ⟨m, rfl, q H1 (Ex.refl H1)⟩) rv_I0) ev_c (rv_I (by decide))) fun H2 e2 => ?_
      exact ⟨⟨_, _, rfl⟩, e.trans e2⟩
    · obtain ⟨⟨z, y, rfl⟩, e⟩ := p
      refine s_retL (el_cat (el_lst (ea_cons (ev_var rfl) (ea_cons ev_c ea_nil)) (by show 2 ≤ 100000; decide)) (el_lcL (K := K) (a := a) (xs := ns.map V.int) (fun i => decide ((10 : Int) ^ ((18 : Int).toNat) ≤ ns.getD i 0)) (fun i => .int (ns.getD i 0)) (ev_var rfl) (ex_l e hS) (by rw [List.length_map]; omega) (fun _ => rfl) (fun i x H1 e1 hx => ?_) (fun i x H1 e1 hx _ => ?_)) ?_) ?_
      · have hx' : x = .int (ns.getD i 0) := by
          rw [List.getElem?_map] at hx
          rw [List.getD_eq_getElem?_getD]
          cases h : ns[i]? with
          | none => rw [h] at hx; cases hx
          | some m => rw [h] at hx; exact (Option.some.inj hx).symm
        subst hx'
        exact et_test (ev_op (ev_var rfl) (ev_op ev_c ev_c (rv_I ⟨by decide, by decide, by decide⟩)) rv_I0)
      · have hx' : x = .int (ns.getD i 0) := by
          rw [List.getElem?_map] at hx
          rw [List.getD_eq_getElem?_getD]
          cases h : ns[i]? with
          | none => rw [h] at hx; cases hx
          | some m => rw [h] at hx; exact (Option.some.inj hx).symm
        subst hx'
        exact ev_var rfl
      · have := given_len (ns.map V.int).length (fun i => decide ((10 : Int) ^ ((18 : Int).toNat) ≤ ns.getD i 0)) (fun i => .int (ns.getD i 0))
        rw [List.length_map] at this ⊢
        show 2 + _ ≤ _
        omega
      · intro p H2 hp e2 h2
        refine kk p (z :: 0 :: ((List.range ns.length).filter (fun i => decide ((10 : Int) ^ ((18 : Int).toNat) ≤ ns.getD i 0))).map fun i => ns.getD i 0) H2 (fresh_back e hp) (e.trans e2) (by simp) ?_
        rw [h2]
        congr 2
        show V.int z :: V.int 0 :: given _ _ _ = V.int z :: V.int 0 :: _
        unfold given
        rw [List.length_map, List.map_map]
        rfl
/-! ### _law_off -/
abbrev s_law_off : Stmt := topS 39
theorem sc_law_off : FnScope ["_law_d", "_law_most", "_law_found"] ["_law_d", "_law_most"] (defScope s_law_off) := ⟨rfl, rfl, rfl, by decide +kernel, rfl, by decide +kernel, by decide +kernel⟩
def spOff : Sp := fun vs H Q _ => ∃ (D : Addr) (ds : List Int) (m : Nat), vs = [.ref D, .int (m : Nat)] ∧ (0 < m ∧ m ≤ 1000000) ∧ 2 ≤ ds.length ∧ H D = some (.lst (ds.map V.int)) ∧
  ∀ (r : Nat) (ds' : List Int) (H2 : Hp), r < m → 2 ≤ ds'.length → ExB D H H2 → H2 D = some (.lst (ds'.map V.int)) → Q (.int (r : Nat)) H2
theorem off_of {D : Addr} {G H : Hp} {m : Nat} {Q : VK} {E : XK} (d : DD D G H) (hm : 0 < m ∧ m ≤ 1000000) (k : ∀ (r : Nat) (H2 : Hp), r < m → ExB D H H2 → DD D G H2 → Q (.int (r : Nat)) H2) : spOff [.ref D, .int (m : Nat)] H Q E := by
  obtain ⟨ds, h2, h⟩ := d.at_
  exact ⟨D, ds, m, rfl, hm, h2, h, fun r ds' H2 hr h2' e h' => k r H2 hr e (d.b e h2' h')⟩
theorem r_off {σ : L2.St} {ta : TA} {D : Addr} {G H : Hp} {m : Nat} {Q : VK} (d : DD D G H) (hm : 0 < m ∧ m ≤ 1000000) (h : EvA ta σ H [.ref D, .int (m : Nat)]) (k : ∀ (r : Nat) (H2 : Hp), r < m → ExB D H H2 → DD D G H2 → Q (.int (r : Nat)) H2) : tCall spOff [] E0 ta σ H Q :=
  h H (Ex.refl H) _ fun H1 e1 => off_of (d.up e1) hm fun r H2 hr e2 d2 => k r H2 hr ((Ex.b e1).trans e2) d2
theorem r_cOff {σ : L2.St} {ta : TA} {D : Addr} {G H : Hp} {m c : Nat} {Q : VK} (d : DD D G H) (hm : 0 < m ∧ m ≤ 1000000) (h : EvA ta σ H [.ref D, .int (m : Nat)]) (k : ∀ (r : Nat) (H2 : Hp), r < m → ExB D H H2 → DD D G H2 → Q (.int ((c + r : Nat) : Int)) H2) :
    tOp (rI0 fun i j => .int (i + j)) (tC (.int ((c : Nat) : Int))) (tCall spOff [] E0 ta) σ H Q :=
  r_off d hm h fun r H2 hr e2 d2 => ⟨(c : Nat), (r : Nat), rfl, rfl, by
    have := k r H2 hr e2 d2
    rw [Int.natCast_add] at this
    exact this⟩
/-- [a, b, ..][off(d, m)] -/
theorem r_menu {σ : L2.St} {ta tb : TA} {D : Addr} {G H : Hp} {m : Nat} {vs : List V} {Q : VK} (d : DD D G H) (ha : EvA ta σ H vs) (hl : vs.length = m) (hm : 0 < m ∧ m ≤ 1000) (h : ∀ H1, Ex H H1 → EvA tb σ H1 [.ref D, .int (m : Nat)])
    (k : ∀ (v : V) (H2 : Hp), v ∈ vs → ExB D H H2 → DD D G H2 → Q v H2) : tOp (rIxL K) (tLst ta) (tCall spOff [] E0 tb) σ H Q :=
  r_op2 (el_lst ha (by omega) H (Ex.refl H) _ fun pl H3 hp e3 h3 => r_off (m := m) (d.up e3) (by omega) (h H3 e3) fun r H4 hr e4 d4 => by
    obtain ⟨ds, _, hds⟩ := d.at_
    have hpl : pl ≠ D := (ne_of_none hds hp).symm
    have hr' : r < vs.length := by omega
    exact ⟨pl, vs, (r : Nat), vs[r], rfl, rfl, sq_of (e4 _ _ hpl h3), atI_nat (List.getElem?_eq_getElem hr'), k _ H4 (List.getElem_mem hr') ((Ex.b e3).trans e4) d4⟩)
/-- for .. in range(off(d, m)), something behind -/
theorem r_qforOff {σ : L2.St} {ta : TA} {Da : Addr} {G H : Hp} {m j : Nat} {tu tz : TS} {D : Ends} (d : DD Da G H) (hm : 0 < m ∧ m ≤ 1000) (h : EvA ta σ H [.ref Da, .int (m : Nat)]) (Pv : Nat → Nat → L2.St → Hp → Prop) (h0 : ∀ n H1, n < m → ExB Da H H1 → DD Da G H1 → Pv n 0 σ H1)
    (hs : ∀ n i σ' H', n < m → i < n → Pv n i σ' H' → tu { D with nx := Pv n (i + 1), ct := Pv n (i + 1), bk := tz D } (σ'.set j (some (.int (i : Nat)))) H') (hd : ∀ n σ' H', n < m → Pv n n σ' H' → tz D σ' H') :
    tSeq (tFor (iRng1 (tCons (tCall spOff [] E0 ta) tNil)) (gName j) tu) tz D σ H := by
  show tCall spOff [] E0 ta σ H _
  refine r_off d (by omega) h fun n H1 hn e1 d1 => ⟨(n : Nat), rfl, by omega, by omega, ?_⟩
  have := for_range (lo := 0) (n := ((n : Nat) : Int).toNat) (g := gName j) (tb := tu) (D := { D with nx := tz D }) (σ := σ) (H := H1) (Pv n) (h0 n H1 hn e1 d1) (fun i σ' H' hi p => by
    have e0 : (0 : Int) + (i : Int) = (i : Int) := Int.zero_add _
    show tu { D with nx := Pv n (i + 1), ct := Pv n (i + 1), bk := tz D } (σ'.set j (some (.int ((0 : Int) + (i : Int))))) H'
    rw [e0]
    exact hs n i σ' H' hn (by omega) p) (fun σ' H' p => hd n σ' H' hn p)
  exact this
theorem r_and {t u : TT} {σ : L2.St} {H : Hp} {b : Bool} {Q : Bool → Hp → Prop} (h1 : EvT t σ H b) (h2 : b = true → ∀ H1, Ex H H1 → u σ H1 Q) (h3 : b = false → ∀ H1, Ex H H1 → Q false H1) : tAnd t u σ H Q := h1 H (Ex.refl H) _ fun H1 e1 => by
  cases b with
  | true => exact iteT (h2 rfl H1 e1)
  | false => exact iteF (h3 rfl H1 e1)
theorem get_ints {ds : List Int} {i : Nat} (h : i < ds.length) : atI (ds.map V.int) (i : Nat) = some (.int (ds.getD i 0)) := by
  refine atI_nat ?_
  rw [List.getElem?_map, List.getElem?_eq_getElem h, List.getD_eq_getElem?_getD, List.getElem?_eq_getElem h]
  rfl
theorem erase_map {α β : Type} (f : α → β) : ∀ (l : List α) (i : Nat), (l.map f).eraseIdx i = (l.eraseIdx i).map f
  | [], _ => rfl
  | _ :: _, 0 => rfl
  | a :: l, i + 1 => congrArg (f a :: ·) (erase_map f l i)
theorem set_ints {ds : List Int} {i : Nat} {z : Int} : (ds.map V.int).set i (.int z) = (ds.set i z).map V.int := by
  rw [List.map_set]
theorem ok_law_off (D : Def1 K mg "_law_off" s_law_off) (B : Bl mg) : Cal P w K mg base 1 "_law_off" ["_law_d", "_law_most"] spOff := by
  refine D.cal sc_law_off (fun _ _ _ _ _ _ us hl => match us, hl with | [_, _], _ => rfl) (fun vs H Q E h => ?_) (fun f cdv A outer s H vs Q E hr h => ?_)
  · obtain ⟨D, ds, m, rfl, _⟩ := h
    rfl
  · obtain ⟨D, ds, m, rfl, hm, h2, hD, k⟩ := h
    refine ⟨_, (pss_cut (ps_if (PW.pt (pw_and (pt_cmpR op_eq (pe_ix ix_list (pv 0) pe_int (fun _ _ => rfl)) pe_int (nomark _)) (pw_and1 (pt_cmpR op_gt (pe_callB call_len_seq (by rfl) B.len PySem.boot_len (pa_cons (pv 0) pa_nil)) pe_int (nomark _))))) (pss_one (ps_asg (pe_bm PySem.F.plainAttrs_list PySem.F.slot_list_pop PySem.F.type_list_pop mt_popAt (pv 0) (pa_cons pe_int pa_nil)) (pg_sub (pv 0) pe_int set_list)))
 pss_nil)
 (pss_cons (ps_if (pt_cmpR op_gt (pe_ix ix_list (pv 0) pe_int (fun _ _ => rfl)) pe_int (nomark _)) (pss_cons (ps_set (i := 2) sc_law_off.nd rfl (Or.inl rfl) (pe_op op_mod (pe_ix ix_list (pv 0) pe_int (fun _ _ => rfl)) (pv 1)))
 (pss_cons (ps_asg (pe_op op_fdiv (pe_ix ix_list (pv 0) pe_int (fun _ _ => rfl)) (pv 1)) (pg_sub (pv 0) pe_int set_list))
 (pss_one (ps_ret (pv 2)))))
 pss_nil)
 (pss_cons (ps_asg (pe_op op_mod (pe_op op_add (pe_op op_mul (pe_ix ix_list (pv 0) pe_int (fun _ _ => rfl)) pe_int) pe_int) pe_int) (pg_sub (pv 0) pe_int set_list))
 (pss_one (ps_ret (pe_op op_mod (pe_op op_fdiv (pe_ix ix_list (pv 0) pe_int (fun _ _ => rfl)) pe_int) (pv 1))))))), ?_⟩
    have ix1 : ∀ {H' : Hp} {ds' : List Int} {y : Option V}, 2 ≤ ds'.length → H' D = some (.lst (ds'.map V.int)) → Ev (tOp (rIxL K) (tVar 0) (tC (.int 1))) [some (.ref D), some (.int (m : Nat)), y] H' (.int (ds'.getD 1 0)) :=
      fun hl hd => ev_op (ev_var rfl) ev_c (rv_ixL (sq_of hd) (get_ints (i := 1) hl))
    have ix0 : ∀ {H' : Hp} {ds' : List Int} {y : Option V}, 2 ≤ ds'.length → H' D = some (.lst (ds'.map V.int)) → Ev (tOp (rIxL K) (tVar 0) (tC (.int 0))) [some (.ref D), some (.int (m : Nat)), y] H' (.int (ds'.getD 0 0)) :=
      fun hl hd => ev_op (ev_var rfl) ev_c (rv_ixL (sq_of hd) (get_ints (i := 0) (by omega)))
    refine q_cut (M := fun σ H' => ∃ ds' : List Int, σ = [some (.ref D), some (.int (m : Nat)), none] ∧ ExB D H H' ∧ 2 ≤ ds'.length ∧ H' D = some (.lst (ds'.map V.int))) ?_ ?_
    · refine s_when (b := decide (V.int (ds.getD 1 0) = V.int 0) && decide (2 < ((ds.length : Nat) : Int))) (et_and (et_test (ev_op (ix1 h2 hD) ev_c (rv_eq rfl))) (fun _ => et_test (ev_is (ev_op (ev_len (ev_var rfl) (sq_of hD)) ev_c rv_I0) (by simp)))) (fun hb H1 e1 => ?_) (fun hb H1 e1 => ⟨ds, rfl, Ex.b e1, h2, e1 _ _ hD⟩)
      have h3 : 2 < ds.length := by
        have := (Bool.and_eq_true_iff.mp hb).2
        have := of_decide_eq_true this
        omega
      have hD1 := e1 _ _ hD
      refine ⟨.ref D, rfl, Or.inl ⟨rfl, _, sq_of hD1⟩, D, ds.map V.int, 2, 2, .int (ds.getD 2 0), rfl, rfl, hD1, by decide, by decide, ?_, ?_, ?_⟩
      · unfold seqIndex?
        rw [List.length_map]
        simp only [show ¬ ((2 : Int) < 0) by decide, if_false]
        rw [if_pos (by simp; omega)]
        rfl
      · rw [List.getElem?_map, List.getElem?_eq_getElem h3, List.getD_eq_getElem?_getD, List.getElem?_eq_getElem h3]
        rfl
      · refine ⟨.ref D, rfl, D, (ds.map V.int).eraseIdx 2, 1, 1, rfl, rfl, upd_same, ?_, ?_⟩
        · unfold ixN
          rw [if_pos (by decide), if_pos (by rw [List.length_eraseIdx, List.length_map, if_pos h3]; omega)]
          rfl
        · refine ⟨(ds.eraseIdx 2).set 1 (ds.getD 2 0), rfl, (Ex.b e1).trans (ExB.upd.trans ExB.upd), ?_, ?_⟩
          · rw [List.length_set, List.length_eraseIdx, if_pos h3]
            omega
          · rw [upd_same, ← set_ints]
            congr 2
            congr 1
            exact erase_map _ _ _
    · rintro σ' H' ⟨ds', rfl, e', h2', hD'⟩
      refine q_when (b := decide (0 < ds'.getD 1 0)) (et_test (ev_op (ix1 h2' hD') ev_c rv_I0)) (fun hb H1 e1 => ?_) (fun hb H1 e1 => ?_)
      · have hD1 := e1 _ _ hD'
        refine q_asg (v := .int (ds'.getD 1 0 % (m : Nat))) (ev_op (ix1 h2' hD1) (ev_var rfl) (rv_I (by show (0 : Int) < (m : Nat); omega))) fun H2 e2 => ?_
        have hD2 := e2 _ _ hD1
        refine q_setL (j := 1) (xs := ds'.map V.int) hD2 (v := .int (ds'.getD 1 0 / (m : Nat))) (ev_op (ix1 h2' hD2) (ev_var rfl) (rv_I (by show (0 : Int) < (m : Nat) ∧ (m : Nat) < (1073741824 : Int); omega))) (ev_var rfl) ev_c (by rw [List.length_map]; omega) fun H3 e3 => ?_
        have hr0 : 0 ≤ ds'.getD 1 0 % (m : Nat) := Int.emod_nonneg _ (by omega)
        have hr1 : ds'.getD 1 0 % (m : Nat) < (m : Nat) := Int.emod_lt_of_pos _ (by omega)
        refine s_ret (v := .int (ds'.getD 1 0 % (m : Nat))) (ev_var rfl) fun H4 e4 => ?_
        have hz : ((ds'.getD 1 0 % (m : Nat)).toNat : Int) = ds'.getD 1 0 % (m : Nat) := Int.toNat_of_nonneg hr0
        have := k (ds'.getD 1 0 % (m : Nat)).toNat (ds'.set 1 (ds'.getD 1 0 / (m : Nat))) H4 (by omega) (by rw [List.length_set]; exact h2') (e'.trans ((Ex.b ((e1.trans e2).trans e3)).trans (ExB.upd.trans (Ex.b e4)))) (e4 _ _ (by rw [upd_same, set_ints]))
        rw [hz] at this
        exact this
      · have hD1 := e1 _ _ hD'
        refine q_setL (j := 0) (xs := ds'.map V.int) hD1 (v := .int ((ds'.getD 0 0 * 48271 + 11) % 2147483647)) (ev_op (ev_op (ev_op (ix0 h2' hD1) ev_c (rv_I (Or.inr ⟨by decide, by decide⟩))) ev_c rv_I0) ev_c (rv_I (by decide))) (ev_var rfl) ev_c (by rw [List.length_map]; omega) fun H2 e2 => ?_
        have hD2 : (upd H2 D (.lst ((ds'.map V.int).set 0 (.int ((ds'.getD 0 0 * 48271 + 11) % 2147483647))))) D = some (.lst ((ds'.set 0 ((ds'.getD 0 0 * 48271 + 11) % 2147483647)).map V.int)) := by rw [upd_same, set_ints]
        have hl2 : 2 ≤ (ds'.set 0 ((ds'.getD 0 0 * 48271 + 11) % 2147483647)).length := by rw [List.length_set]; exact h2'
        generalize (ds'.set 0 ((ds'.getD 0 0 * 48271 + 11) % 2147483647)) = es at hD2 hl2
        generalize hg : (upd H2 D (.lst ((ds'.map V.int).set 0 (.int ((ds'.getD 0 0 * 48271 + 11) % 2147483647))))) = H3 at hD2
        have e3 : ExB D H H3 := by
          rw [← hg]
          exact e'.trans ((Ex.b (e1.trans e2)).trans ExB.upd)
        have hr0 : 0 ≤ es.getD 0 0 / 64 % (m : Nat) := Int.emod_nonneg _ (by omega)
        have hr1 : es.getD 0 0 / 64 % (m : Nat) < (m : Nat) := Int.emod_lt_of_pos _ (by omega)
        refine s_ret (v := .int (es.getD 0 0 / 64 % (m : Nat))) (ev_op (ev_op (ix0 hl2 hD2) ev_c (rv_I (by show (0 : Int) < 64 ∧ (64 : Int) < 1073741824; decide))) (ev_var rfl) (rv_I (by show (0 : Int) < (m : Nat); omega))) fun H4 e4 => ?_
        have hz : ((es.getD 0 0 / 64 % (m : Nat)).toNat : Int) = es.getD 0 0 / 64 % (m : Nat) := Int.toNat_of_nonneg hr0
        have := k (es.getD 0 0 / 64 % (m : Nat)).toNat es H4 (by omega) hl2 (e3.trans (Ex.b e4)) (e4 _ _ hD2)
        rw [hz] at this
        exact this
end
end Bm
namespace Bm
open PySem PySem.Spec PyProof.Rows L2 Evl
section
variable {P : Program} {w : World} {K : PySem.W.Frag} {mg : PySem.Str → Option Value} {base : Heap}
/-! ### _law_pattern -/
abbrev s_law_pattern : Stmt := topS 42
theorem sc_law_pattern : FnScope ["_law_d", "_law_most", "_law_often", "_law_found", "_law_at", "_law_k"] ["_law_d", "_law_most"] (defScope s_law_pattern) := ⟨rfl, rfl, rfl, by decide +kernel, rfl, by decide +kernel, by decide +kernel⟩
def spPattern : Sp := fun vs H Q _ => ∃ (D : Addr) (G : Hp) (m : Nat), vs = [.ref D, .int (m : Nat)] ∧ DD D G H ∧ (0 < m ∧ m ≤ 12) ∧ ∀ (p : List Bool) (H2 : Hp), Pat m p → DD D G H2 → Q (.str (txt p)) H2
def rInt1 : List V → Hp → VK → Prop := fun xs H Q => (∃ i, xs = [.int i] ∧ Q (.int i) H) ∨ ∃ k, xs = [.bl k] ∧ Q (.int (if k then 1 else 0)) H
theorem ok_law_pattern (D : Def1 K mg "_law_pattern" s_law_pattern) (B : Bl mg) (c_law_off : Cal P w K mg base 1 "_law_off" ["_law_d", "_law_most"] spOff) : Cal P w K mg base 2 "_law_pattern" ["_law_d", "_law_most"] spPattern := by
  refine D.cal sc_law_pattern (fun _ _ _ _ _ _ us hl => match us, hl with | [_, _], _ => rfl) (fun vs H Q E h => ?_) (fun f cdv A outer s H vs Q E hr h => ?_)
  · obtain ⟨D, G, m, rfl, _⟩ := h
    rfl
  · obtain ⟨D, G, m, rfl, d, ⟨hm, hm2⟩, k⟩ := h
    refine ⟨_, (pss_cons (ps_set (i := 2) sc_law_pattern.nd rfl (Or.inr rfl) (pe_op op_add pe_int (pe_callC c_law_off hr (by decide) (pa_cons (pv 0) (pa_cons pe_int pa_nil)))))
 (pss_cons (ps_set (i := 3) sc_law_pattern.nd rfl (Or.inl rfl) (pe_join pe_str (pe_lc (own := [("_law_k", 5)]) (g := gName 5) rfl sc_law_pattern.nd (pi_range1 (by rfl) B.range (pa_cons (pe_op op_add pe_int (pe_callC c_law_off hr (by decide) (pa_cons (pv 0) (pa_cons (pv 1) pa_nil)))) pa_nil)) (blkOk_by (N := ["_law_d", "_law_most", "_law_often", "_law_found", "_law_at", "_law_k"]) (sc := defScope s_law_pattern) (by decide +kernel)) (fun _ _ _ _ _ => (pg_name (i := 5) sc_law_pattern.nd rfl (Or.inl rfl))) (fun _ _ _ _ _ => pts_nil) (fun _ _ _ _ _ => (pe_ix ix_str pe_str (pe_callTy call_int1 (by rfl) B.int (by decide +kernel) (pa_cons (pe_cmpR op_eq (pe_callC c_law_off hr (by decide) (pa_cons (pv 0) (pa_cons (pv 2) pa_nil))) pe_int (nomark _)) pa_nil)) (fun _ _ => rfl))))))
 (pss_cut (ps_if (pt_cmpR op_notIn_sign pe_str (pv 3) (by rfl)) (pss_cons (ps_set (i := 4) sc_law_pattern.nd rfl (Or.inl rfl) (pe_callC c_law_off hr (by decide) (pa_cons (pv 0) (pa_cons (pe_callB call_len_str (by rfl) B.len PySem.boot_len (pa_cons (pv 3) pa_nil)) pa_nil))))
 (pss_one (ps_set (i := 3) sc_law_pattern.nd rfl (Or.inl rfl) (pe_op op_add_str (pe_op op_add_str (pe_slice sl_str (pv 3) po_none (po_some (pv 4))) pe_str) (pe_slice sl_str (pv 3) (po_some (pe_op op_add (pv 4) pe_int)) po_none)))))
 pss_nil)
 (pss_one (ps_ret (pv 3)))))), ?_⟩
    -- often
    refine r_qasg (r_cOff (c := 1) (m := 4) d (by decide) (ea_cons (ev_var rfl) (ea_cons ev_c ea_nil)) fun r0 H1 hr0 _ d1 => ?_)
    -- how many
    refine r_qasg (te := tM1 _ _ _) ⟨⟨_, rfl⟩, ?_⟩
    refine r_cOff (c := 1) (m := m) (ta := tCons (tVar 0) (tCons (tVar 1) tNil)) d1 (by omega) (ea_cons (ev_var rfl) (ea_cons (ev_var rfl) ea_nil)) fun r1 H2 hr1 _ d2 => ?_
    refine ⟨_, rfl, by omega, by omega, fun Dl hDl => ?_⟩
    have hDD : Dl ≠ D := by
      obtain ⟨ds, _, h⟩ := d2.at_
      exact (ne_of_none h hDl).symm
    have hG : G Dl = none := fresh_back d2.ex hDl
    have dnew : ∀ {H' : Hp} {xs : List V}, DD D G H' → DD D G (upd H' Dl (.lst xs)) := fun d' => by
      obtain ⟨ds, h2, h⟩ := d'.at_
      exact ⟨d'.no, fun a o q => by rw [upd_ne (ne_of_none q hG)]; exact d'.ex a o q, ds, h2, by rw [upd_ne hDD.symm]; exact h⟩
    refine lc_range (lo := 0) (n := (((1 + r1 : Nat) : Int)).toNat) (fun i H' => ∃ bs : List Bool, bs.length = i ∧ DD D G H' ∧ H' Dl = some (.lst (bs.map fun b => .str ⟨#[sg b]⟩))) ⟨[], rfl, dnew d2, upd_same⟩ (fun i H' hi p => ?_) (fun H' p => ?_)
    · obtain ⟨bs, hbs, d', hl⟩ := p
      refine ⟨rfl, r_yes ?_⟩
      refine r_op ev_c fun H0 e0 => r_cb1 (r_opc (r_off (m := 1 + r0) (d'.up e0) (by omega) (ea_cons (ev_var rfl) (ea_cons (ev_var rfl) ea_nil)) fun r2 H3 hr2 e3 d3 => ⟨rfl, .inr ⟨_, rfl, ?_⟩⟩))
      have hb : ∀ c : Bool, atI (("01" : PySem.Str)).cps.toList (if c = true then 1 else 0) = some (sg c) := by decide
      refine ⟨"01", _, _, rfl, rfl, by decide, hb _, ?_⟩
      have hl3 := e3 _ _ hDD (e0 _ _ hl)
      refine ⟨_, hl3, by rw [List.length_map]; exact small1000 (by omega), bs ++ [decide (V.int (r2 : Nat) = V.int 0)], by simp [hbs], dnew d3, ?_⟩
      rw [upd_same, List.map_append]
      rfl
    · obtain ⟨bs, hbs, d', hl⟩ := p
      have hlen : 1 ≤ bs.length ∧ bs.length ≤ m := by omega
      refine ⟨"", Dl, bs.map fun b => ⟨#[sg b]⟩, rfl, rfl, .inl (sq_of (hl.trans (by rw [List.map_map]; rfl))), ?_, ?_⟩
      · have hs : ((bs.map fun b => (⟨#[sg b]⟩ : PySem.Str)).map (·.length)).sum = bs.length := by
          rw [List.map_map]
          have : ∀ l : List Bool, (l.map ((fun z : PySem.Str => z.length) ∘ fun b => (⟨#[sg b]⟩ : PySem.Str))).sum = l.length := by
            intro l
            induction l with
            | nil => rfl
            | cons a l ih =>
              rw [List.map_cons, List.sum_cons, ih, List.length_cons]
              show 1 + l.length = l.length + 1
              omega
          exact this bs
        rw [hs]
        show bs.length + _ * 0 ≤ 16777216
        omega
      · rw [join_txt]
        refine q_cut (M := fun σ H' => (∃ (p : List Bool) (z : Option V), σ = [some (.ref D), some (.int (m : Nat)), some (.int ((1 + r0 : Nat) : Int)), some (.str (txt p)), z, none] ∧ Pat m p) ∧ DD D G H') ?_ ?_
        · refine s_when (b := !decide (true ∈ bs)) (et_test (ev_no1in ev_c (ev_var rfl))) (fun hb H3 e3 => ?_) (fun hb H3 e3 => ?_)
          · refine r_qasg (r_off (m := bs.length) (d'.up e3) (by omega) (ea_cons (ev_var rfl) (ea_cons (ev_lenS (ev_var rfl) (by omega)) ea_nil)) fun r H4 hr _ d4 => ?_)
            have h1 : Ev (tC (.str "1")) [some (.ref D), some (.int (m : Nat)), some (.int ((1 + r0 : Nat) : Int)), some (.str (txt bs)), some (.int (r : Nat)), none] H4 (.str (txt [true])) := ev_c
            refine s_asg (v := .str (txt ((bs.take r ++ [true]) ++ bs.drop (r + 1)))) (ev_addS (ev_addS (ev_take (ev_var rfl) (ev_var rfl) (by omega)) h1 (by simp; omega)) (ev_drop (ev_var rfl) (ev_addN (ev_var rfl) (ev_c (v := .int ((1 : Nat) : Int)))) (by omega)) (by simp; omega)) fun H5 e5 => ?_
            refine ⟨⟨_, _, rfl, ⟨?_, ?_, ?_⟩⟩, d4.up e5⟩
            · simp
              omega
            · simp
              omega
            · simp
          · exact ⟨⟨bs, _, rfl, ⟨hlen.1, hlen.2, by simpa using hb⟩⟩, d'.up e3⟩
        · rintro σ' H' ⟨⟨p, z, rfl, hp⟩, d4⟩
          exact s_ret (v := .str (txt p)) (ev_var rfl) fun H3 e3 => k p H3 hp (d4.up e3)
theorem pattern_of {D : Addr} {G H : Hp} {m : Nat} {Q : VK} {E : XK} (d : DD D G H) (hm : 0 < m ∧ m ≤ 12) (k : ∀ (p : List Bool) (H2 : Hp), Pat m p → DD D G H2 → Q (.str (txt p)) H2) : spPattern [.ref D, .int (m : Nat)] H Q E :=
  ⟨D, G, m, rfl, d, hm, k⟩
theorem r_pattern {σ : L2.St} {ta : TA} {D : Addr} {G H : Hp} {m : Nat} {Q : VK} (d : DD D G H) (hm : 0 < m ∧ m ≤ 12) (h : EvA ta σ H [.ref D, .int (m : Nat)]) (k : ∀ (p : List Bool) (H2 : Hp), Pat m p → DD D G H2 → Q (.str (txt p)) H2) : tCall spPattern [] E0 ta σ H Q :=
  h H (Ex.refl H) _ fun H1 e1 => pattern_of (d.up e1) hm k
end
end Bm
namespace Bm
open PySem PySem.Spec PyProof.Rows L2 Evl
section
variable {P : Program} {w : World} {K : PySem.W.Frag} {mg : PySem.Str → Option Value} {base : Heap}
/-! ### _law_alike -/
abbrev s_law_alike : Stmt := topS 40
theorem sc_law_alike : FnScope ["_law_found", "_law_due", "_law_k"] ["_law_found", "_law_due"] (defScope s_law_alike) := ⟨rfl, rfl, rfl, by decide +kernel, rfl, by decide +kernel, by decide +kernel⟩
def spAlikeI : Sp := fun vs H Q _ => ∃ i : Int, vs = [.int i, .int i] ∧ RetV (.bl true) H Q
theorem ok_alikeH (D : Def1 K mg "_law_alike" s_law_alike) (B : Bl mg) : CalH P w K mg base 1 "_law_alike" ["_law_found", "_law_due"] spAlikeI := by
  refine D.calH sc_law_alike (fun _ _ _ _ _ _ us hl => match us, hl with | [_, _], _ => rfl) (fun vs H Q E h => ?_) (fun f cdv A outer s H vs Q E p hot hr h => ?_)
  · obtain ⟨i, rfl, _⟩ := h
    rfl
  · obtain ⟨c, rfl, k⟩ := h
    refine ⟨_, (pss_cons (ps_if (pt_cmpR op_isN (pv 1) pe_non (nomark _)) (pss_one (ps_ret (pe_cmpR op_isN (pv 0) pe_non (nomark _))))
 pss_nil) (pss_cons (ps_if (pt_val (pe_callB call_isi (by rfl) B.isinstance (by decide +kernel) (pa_cons (pv 1) (pa_cons (pe_bltn (v := .ty "bool") (by rfl) B.bool (by decide +kernel) rfl) pa_nil)))) (pss_one (ps_ret (pe_and (pe_callB call_isi (by rfl) B.isinstance (by decide +kernel) (pa_cons (pv 0) (pa_cons (pe_bltn (v := .ty "bool") (by rfl) B.bool (by decide +kernel) rfl) pa_nil))) (pe_one (pe_cmpR op_eq (pv 0) (pv 1) (nomark _))))))
 pss_nil) (pss_cons (ps_if (pt_val (pe_callB call_isi (by rfl) B.isinstance (by decide +kernel) (pa_cons (pv 1) (pa_cons (pe_bltn (v := .ty "int") (by rfl) B.int (by decide +kernel) rfl) pa_nil)))) (pss_one (ps_ret (pe_and (pe_callB call_isi (by rfl) B.isinstance (by decide +kernel) (pa_cons (pv 0) (pa_cons (pe_bltn (v := .ty "int") (by rfl) B.int (by decide +kernel) rfl) pa_nil))) (pe_and (pe_not (pe_callB call_isi (by rfl) B.isinstance (by decide +kernel) (pa_cons (pv 0) (pa_cons (pe_bltn (v := .ty "bool") (by rfl) B.bool (by decide +kernel) rfl) pa_nil)))) (pe_one (pe_cmpR op_eq (pv 0) (pv 1) (nomark _)))))))
 pss_nil) pss_never))), ?_⟩
    refine q_when (b := false) (et_is (et_test (ev_isN (x := .int c) (ev_var rfl))) rfl) (fun hb => nomatch hb) (fun _ H1 e1 => ?_)
    refine q_when (b := false) (et_B (ev_isi (K := K) (a := "int") (ev_var rfl) (fun _ _ => .base (.int c)) (by decide +kernel))) (fun hb => nomatch hb) (fun _ H2 e2 => ?_)
    refine q_when (b := true) (et_B (ev_isi (K := K) (a := "int") (ev_var rfl) (fun _ _ => .base (.int c)) (by decide +kernel))) (fun _ H3 e3 => ?_) (fun hb => nomatch hb)
    exact s_ret (v := .bl true) (ev_andV (a := true) (ev_isi (K := K) (a := "int") (ev_var rfl) (fun _ _ => .base (.int c)) (by decide +kernel)) (fun _ => ev_andV (a := true) (b := true) (ev_notV (a := false) (ev_isi (K := K) (a := "int") (ev_var rfl) (fun _ _ => .base (.int c)) (by decide +kernel))) (fun _ => ev_is (ev_op (ev_var rfl) (ev_var rfl) (rv_eq (x := .int c) (y := .int c) rfl)) (by rw [decide_eq_true rfl])))) fun H4 e4 => k H4 (((e1.trans e2).trans e3).trans e4)
/-! ### _law_refused -/
abbrev s_law_refused : Stmt := topS 41
theorem sc_law_refused : FnScope ["_law_work", "_law_word", "_law_value", "_law_e", "_law_kinds", "_law_words", "_law_one"] ["_law_work", "_law_word", "_law_value"] (defScope s_law_refused) := ⟨rfl, rfl, rfl, by decide +kernel, rfl, by decide +kernel, by decide +kernel⟩
theorem ok_refused (D : Def1 K mg "_law_refused" s_law_refused) (B : Bl mg) (T : Errs K mg) (h_alike : CalH P w K mg base 1 "_law_alike" ["_law_found", "_law_due"] spAlikeI) :
    ∃ f fd, mg "_law_refused" = some (.ref f) ∧ PySem.W.keepIn K (.ref f) = true ∧ Binds K fd ["_law_work", "_law_word", "_law_value"] [] ∧ RefRuns P w K mg base 6 5 f := by
  obtain ⟨f, fd, F0, hm⟩ := D.ex
  have hb := F0.bindsN (ps := ["_law_work", "_law_word", "_law_value"]) fun _ _ _ _ _ _ us hl => match us, hl with | [_, _, _], _ => rfl
  refine ⟨f, fd, hm, F0.kp, hb, fun A outer s H us fl F fr ws r Pre Q E hr e0 rv l hpre C LR k => ?_⟩
  obtain ⟨oc, od, dV, kV, doc, pm, an, cdv, ct, osl, rfl, lk, hcd, _, _⟩ := F0.ex
  have hul : us.length = 3 := rv.length.symm
  have bt := hb s us (e0.mod.kin.keeps fun b o z => (e0.bs b o z).1) (by rw [List.append_nil]; exact hul)
  rw [List.append_nil] at bt
  refine LamX.run_ofS (N := ["_law_work", "_law_word", "_law_value", "_law_e", "_law_kinds", "_law_words", "_law_one"]) (k := 5) lk hcd sc_law_refused hr e0 bt rv rfl fun hr' => ?_
  refine ⟨_, PSs.nox (pss_cons (L2N.ps_try_as (i := 3) rfl rfl sc_law_refused.nd rfl rfl ⟨by rfl, by decide, .inl T.gM⟩ takesF (fun W pn xe tk _ => pss_one (ps_expr (pe_work (i := 0) (fl := fl) tk LR hr' (Nat.le_refl _) C rfl rfl (Or.inl rfl) K rfl)))
    (fun a oe cls d pn hz hf =>
      pss_cons (ps_set (i := 4) sc_law_refused.nd rfl (Or.inl rfl) (pe_lst (pa_cons (pe_callB (call_isX hz.zc hf) (by rfl) B.isinstance (by decide +kernel) (pa_cons (pv 3) (pa_cons (pe_glob (v := .ref (cPt K)) (by rfl) T.gP rfl) pa_nil))) (pa_cons (pe_callB (call_isX hz.zc hf) (by rfl) B.isinstance (by decide +kernel) (pa_cons (pv 3) (pa_cons (pe_glob (v := .ref (cNm K)) (by rfl) T.gN rfl) pa_nil))) (pa_cons (pe_callB (call_isX hz.zc hf) (by rfl) B.isinstance (by decide +kernel) (pa_cons (pv 3) (pa_cons (pe_glob (v := .ref (cNo K)) (by rfl) T.gO rfl) pa_nil))) pa_nil)))))
      (pss_cons (ps_set (i := 5) sc_law_refused.nd rfl (Or.inl rfl) (pe_lst (pa_cons pe_str (pa_cons pe_str (pa_cons pe_str pa_nil)))))
      (pss_cons (ps_if (PW.pt (pw_or (pt_not (pt_val (pe_callB (call_isX hz.zc hf) (by rfl) B.isinstance (by decide +kernel) (pa_cons (pv 3) (pa_cons (pe_bltn (v := .ty "ValueError") (by rfl) T.gV (by decide +kernel) rfl) pa_nil))))) (pw_or1 (pt_cmpR (r := rNeD K) (op_neD hr'.units) (pv 4)
          (pe_lcT (own := [("_law_one", 6)]) (g := gName 6) (tt := fun _ => tYes) (te := tOp rEq (tVar 1) (tVar 6)) sc_law_refused.nd (pv 5) (blkOk_by (N := ["_law_work", "_law_word", "_law_value", "_law_e", "_law_kinds", "_law_words", "_law_one"]) (sc := defScope s_law_refused) (by decide +kernel)) (Still.hot hz hf rfl List.mem_cons_self) (fun _ _ _ _ _ => pg_name (i := 6) sc_law_refused.nd rfl (Or.inl rfl)) (fun _ _ _ _ _ _ _ _ _ => pts_nil) (fun _ _ _ _ _ => pe_cmpR op_eq (pv 1) (pv 6) (nomark _)) K rfl) (nomark _))))) (pss_one (ps_ret pe_bl)) pss_nil)
      (pss_cons (ps_if (pt_cmpR op_eq (pv 1) pe_str (nomark _)) (pss_one (ps_ret (pe_callHC h_alike (roomH_suite hr' (by decide)) (hot_suite hz hf) (pa_cons (pe_xf T.iP.xf T.iP.no hz.zc hf (pv 3)) (pa_cons (pv 2) pa_nil))))) pss_nil)
      (pss_one (ps_ret (pe_or (pe_cmpR op_eq (pv 1) pe_str (nomark _)) (pe_one (pe_callHC h_alike (roomH_suite hr' (by decide)) (hot_suite hz hf) (pa_cons (pe_xf T.iO.xf T.iO.no hz.zc hf (pv 3)) (pa_cons (pv 2) pa_nil)))))))))))) pss_never), ?_⟩
  refine ⟨rfl, l, hpre, raise_all T fun cls d H1 e1 inf => ?_⟩
  obtain ⟨D0, b1, b2, b3, rfl, C0, hbs, hdd, hpat, hnon⟩ := inf
  refine ⟨true, C0.exm, fun _ a ha => ?_, fun hb => nomatch hb⟩
  have hdd' : ∀ {H2 : Hp}, Ex H1 H2 → ∀ dd, d = some dd → ∃ fs, H2 dd = some (.xd fs) := fun e2 dd z => by
    obtain ⟨fs, y⟩ := hdd dd z
    exact ⟨fs, e2 _ _ y⟩
  refine q_asgL (xs := [.bl b1, .bl b2, .bl b3]) (el_lst (ea_cons (ev_isX C0.ec (ev_var rfl) ev_c (fun u z => z) C0.k1 (hdd' (Ex.refl _))) (ea_cons (ev_isX C0.ec (ev_var rfl) ev_c (fun u z => z) C0.k2 (hdd' (Ex.refl _))) (ea_cons (ev_isX C0.ec (ev_var rfl) ev_c (fun u z => z) C0.k3 (hdd' (Ex.refl _))) ea_nil))) (by show 3 ≤ 100000; decide)) fun KL H2 hKL e2 h2 => ?_
  refine q_asgL (xs := [.str "pattern", .str "number", .str "none"]) (el_lst (ea_cons ev_c (ea_cons ev_c (ea_cons ev_c ea_nil))) (by show 3 ≤ 100000; decide)) fun WL H3 hWL e3 h3 => ?_
  have e23 := e2.trans e3
  have h23 := e3 _ _ h2
  have elw : EvL (tLc (iList K (tVar 5)) (gName 6) tYes (tOp rEq (tVar 1) (tVar 6)) [6]) [some (.ref fl), some (.str r.word), some (.int (r.val : Nat)), some (.ref a), some (.ref KL), some (.ref WL), none] H3 [.bl (decide (r.word = "pattern")), .bl (decide (r.word = "number")), .bl (decide (r.word = "none"))] := by
    have := el_lcL (K := K) (a := WL) (xs := [.str "pattern", .str "number", .str "none"]) (tl := tVar 5) (t := tYes) (te := tOp rEq (tVar 1) (tVar 6)) (j := 6) (vs := [6]) (σ := [some (.ref fl), some (.str r.word), some (.int (r.val : Nat)), some (.ref a), some (.ref KL), some (.ref WL), none]) (H := H3) (fun _ => true) (fun i => .bl (decide (V.str r.word = ([V.str "pattern", .str "number", .str "none"] : List V).getD i .non)))
      (ev_var rfl) (sq_of h3) (by show 3 ≤ 40000; decide) (fun _ => rfl) (fun i x H4 e4 hx => fun H5 e5 Q q => q H5 (Ex.refl H5)) (fun i x H4 e4 hx _ => by
        have eg : ([V.str "pattern", .str "number", .str "none"] : List V).getD i .non = x := by rw [List.getD_eq_getElem?_getD, hx]; rfl
        rw [eg]
        refine ev_op (ev_var rfl) (ev_var rfl) (rv_eq ?_)
        have hm : x ∈ ([V.str "pattern", .str "number", .str "none"] : List V) := List.mem_of_getElem? hx
        simp only [List.mem_cons, List.not_mem_nil, or_false] at hm
        rcases hm with rfl | rfl | rfl <;> rfl)
    have ez : ∀ y : PySem.Str, V.bl (decide (V.str r.word = V.str y)) = V.bl (decide (r.word = y)) := fun y => congrArg V.bl (decide_eq_decide.mpr ⟨fun h => V.str.inj h, fun h => by rw [h]⟩)
    have eg : given 3 (fun _ => true) (fun i => V.bl (decide (V.str r.word = ([V.str "pattern", .str "number", .str "none"] : List V).getD i .non))) = [.bl (decide (r.word = "pattern")), .bl (decide (r.word = "number")), .bl (decide (r.word = "none"))] := by
      rw [← ez, ← ez, ← ez]
      rfl
    rw [← eg]
    exact this
  have okK : ([.bl b1, .bl b2, .bl b3] : List V).all okV = true := rfl
  have okW : ([.bl (decide (r.word = "pattern")), .bl (decide (r.word = "number")), .bl (decide (r.word = "none"))] : List V).all okV = true := rfl
  have eqB : ([.bl b1, .bl b2, .bl b3] : List V) = [.bl (decide (r.word = "pattern")), .bl (decide (r.word = "number")), .bl (decide (r.word = "none"))] := by
    have := congrArg (List.map V.bl) hbs
    exact this
  refine q_when (b := false) (et_is (et_or (a := false) (b := false) (et_not (a := true) (et_B (ev_isX C0.ec (ev_var rfl) ev_c (fun u z => z) C0.kv (hdd' e23)))) (fun _ => et_test fun H4 e4 Q q => ⟨.ref KL, rfl, elw H4 e4 _ fun p H5 hp e5 h5 => ⟨_, _, .lst (sq_of ((e4.trans e5) _ _ h23)) (dp_vs okK), .lst (sq_of h5) (dp_vs okW), shaped_vs okK, shaped_vs okW, by rw [eqv_same eqB okK]; exact q H5 e5⟩⟩)) rfl) (fun hb => nomatch hb) (fun _ H4 e4 => ?_)
  have e14 := e23.trans e4
  refine q_when (b := decide (V.str r.word = V.str "pattern")) (et_test (ev_op (ev_var rfl) ev_c (rv_eq rfl))) (fun hb H5 e5 => ?_) (fun hb H5 e5 => ?_)
  · have hw : r.word = "pattern" := V.str.inj (of_decide_eq_true hb)
    cases r with
    | pat n =>
      obtain ⟨rfl, dd, rfl, hx⟩ := hpat n rfl
      exact s_ret (v := .bl true) (ev_callS (ea_cons (ev_xf (ev_var rfl) ((e14.trans e5) _ _ hx)) (ea_cons (ev_var rfl) ea_nil)) fun H6 e6 Q q E => ⟨_, rfl, q⟩) fun H6 e6 => k H6 (((e1.trans e14).trans e5).trans e6)
    | num => exact absurd hw (by decide +kernel)
    | non n => exact absurd (show ("none" : PySem.Str) = "pattern" from hw) (by decide +kernel)
  · cases r with
    | pat n => exact absurd (of_decide_eq_false hb) (fun h => h rfl)
    | num => exact s_ret (v := .bl true) (ev_orV (a := true) (b := true) (ev_is (ev_op (ev_var rfl) ev_c (rv_eq (x := .str "number") (y := .str "number") rfl)) (by rw [decide_eq_true rfl])) (fun z => nomatch z)) fun H6 e6 => k H6 (((e1.trans e14).trans e5).trans e6)
    | non n =>
      obtain ⟨rfl, dd, rfl, hx⟩ := hnon n rfl
      exact s_ret (v := .bl true) (ev_orV (a := false) (b := true) (ev_is (ev_op (ev_var rfl) ev_c (rv_eq (x := .str "none") (y := .str "number") rfl)) (by rw [decide_eq_false (by decide +kernel)])) (fun _ => ev_callS (ea_cons (ev_xf (ev_var rfl) ((e14.trans e5) _ _ hx)) (ea_cons (ev_var rfl) ea_nil)) fun H6 e6 Q q E => ⟨_, rfl, q⟩)) fun H6 e6 => k H6 (((e1.trans e14).trans e5).trans e6)
end
end Bm
namespace Bm
open PySem PySem.Spec PyProof.Rows L2 Evl
section
variable {P : Program} {w : World} {K : PySem.W.Frag} {mg : PySem.Str → Option Value} {base : Heap}
/-! ### _law_bad -/
abbrev s_law_bad : Stmt := topS 43
theorem sc_law_bad : FnScope ["_law_d", "_law_pattern_here", "_law_at", "_law_odd", "_law_kind", "_law_many", "_law_k"] ["_law_d", "_law_pattern_here"] (defScope s_law_bad) := ⟨rfl, rfl, rfl, by decide +kernel, rfl, by decide +kernel, by decide +kernel⟩
def spBad : Sp := fun vs H Q _ => ∃ (D : Addr) (G : Hp) (p : List Bool), vs = [.ref D, .str (txt p)] ∧ DD D G H ∧ Pat 12 p ∧ ∀ (x : PySem.Str) (n : Nat) (t : Addr) (H2 : Hp), x.length ≤ 1000 → fault x.cps.toList = some n → DD D G H2 → H2 t = some (.tup [.str x, .int (n : Nat)]) → G t = none → Q (.ref t) H2
theorem r_rtup {te : TE} {tr : TA} {D : Ends} {σ : L2.St} {H : Hp} (h : te σ H fun x H1 => tr σ H1 fun xs H2 => (x :: xs).length ≤ sizeLine ∧ ∀ p, H2 p = none → D.rt (.ref p) (upd H2 p (.tup (x :: xs)))) : tRet (tTup (tCons te tr)) D σ H := h
/-- a text, then ! so many times -/
theorem r_bang {σ : L2.St} {ta : TE} {tb : TA} {D : Addr} {G H : Hp} {x : PySem.Str} {Q : VK} (d : DD D G H) (ha : Ev ta σ H (.str x)) (hl : x.length ≤ 900) (hb : EvA tb σ H [.ref D, .int ((2 : Nat) : Int)]) (k : ∀ (z : PySem.Str) (H2 : Hp), z.length ≤ 1 → DD D G H2 → Q (.str (x ++ z)) H2) :
    tOp rAddS ta (tOp rRepS (tC (.str "!")) (tCall spOff [] E0 tb)) σ H Q :=
  r_op ha fun H1 e1 => r_op (x := .str "!") ev_c fun H2 e2 => r_off (m := 2) (d.up (e1.trans e2)) (by decide) (hb.mono (e1.trans e2)) fun r H3 hr _ d3 => ⟨33, r, rfl, rfl, by omega, x, ⟨(List.replicate r 33).toArray⟩, rfl, rfl, by
    show x.length + (List.replicate r 33).toArray.size ≤ sizeLine
    rw [List.size_toArray, List.length_replicate]
    exact szl (by omega), k _ H3 (by
    show (List.replicate r 33).toArray.size ≤ 1
    rw [List.size_toArray, List.length_replicate]
    omega) d3⟩
theorem ok_law_bad (D : Def1 K mg "_law_bad" s_law_bad) (B : Bl mg) (c_law_off : Cal P w K mg base 1 "_law_off" ["_law_d", "_law_most"] spOff) : Cal P w K mg base 2 "_law_bad" ["_law_d", "_law_pattern_here"] spBad := by
  refine D.cal sc_law_bad (fun _ _ _ _ _ _ us hl => match us, hl with | [_, _], _ => rfl) (fun vs H Q E h => ?_) (fun f cdv A outer s H vs Q E hr h => ?_)
  · obtain ⟨D, G, p, rfl, _⟩ := h
    rfl
  · obtain ⟨D, G, p, rfl, d, hp, k⟩ := h
    refine ⟨_, (pss_cons (ps_set (i := 2) sc_law_bad.nd rfl (Or.inl rfl) (pe_callC c_law_off hr (by decide) (pa_cons (pv 0) (pa_cons (pe_op op_add (pe_callB call_len_str (by rfl) B.len PySem.boot_len (pa_cons (pv 1) pa_nil)) pe_int) pa_nil))))
 (pss_cons (ps_set (i := 3) sc_law_bad.nd rfl (Or.inl rfl) (pe_ix ix_str pe_str (pe_callC c_law_off hr (by decide) (pa_cons (pv 0) (pa_cons pe_int pa_nil))) (fun _ _ => rfl)))
 (pss_cons (ps_set (i := 4) sc_law_bad.nd rfl (Or.inl rfl) (pe_callC c_law_off hr (by decide) (pa_cons (pv 0) (pa_cons pe_int pa_nil))))
 (pss_cons (ps_if (pt_cmpR op_eq (pv 4) pe_int (nomark _)) (pss_cons (ps_set (i := 5) sc_law_bad.nd rfl (Or.inl rfl) (pe_callC c_law_off hr (by decide) (pa_cons (pv 0) (pa_cons pe_int pa_nil))))
 (pss_one (ps_ret (pe_tup (pa_cons (pe_op op_rep_str pe_str (pv 5)) (pa_cons (pv 5) pa_nil))))))
 pss_nil)
 (pss_cons (ps_if (pt_cmpR op_eq (pv 4) pe_int (nomark _)) (pss_one (ps_ret (pe_tup (pa_cons (pe_op op_add_str (pe_join pe_str (pe_lc (own := [("_law_k", 6)]) (g := gName 6) rfl sc_law_bad.nd (pi_range1 (by rfl) B.range (pa_cons (pe_op op_add pe_int (pe_callC c_law_off hr (by decide) (pa_cons (pv 0) (pa_cons pe_int pa_nil)))) pa_nil)) (blkOk_by (N := ["_law_d", "_law_pattern_here", "_law_at", "_law_odd", "_law_kind", "_law_many", "_law_k"]) (sc := defScope s_law_bad) (by decide +kernel)) (fun _ _ _ _ _ => (pg_name (i := 6) sc_law_bad.nd rfl (Or.inl rfl))) (fun _ _ _ _ _ => pts_nil) (fun _ _ _ _ _ => (pe_ix ix_str pe_str (pe_callC c_law_off hr (by decide) (pa_cons (pv 0) (pa_cons pe_int pa_nil))) (fun _ _ => rfl))))) (pe_op op_rep_str pe_str (pe_callC c_law_off hr (by decide) (pa_cons (pv 0) (pa_cons pe_int pa_nil))))) (pa_cons pe_int pa_nil)))))
 pss_nil)
 (pss_one (ps_ret (pe_tup (pa_cons (pe_op op_add_str (pe_op op_add_str (pe_op op_add_str (pe_slice sl_str (pv 1) po_none (po_some (pv 2))) (pv 3)) (pe_slice sl_str (pv 1) (po_some (pv 2)) po_none)) (pe_op op_rep_str pe_str (pe_callC c_law_off hr (by decide) (pa_cons (pv 0) (pa_cons pe_int pa_nil))))) (pa_cons (pv 2) pa_nil)))))))))), ?_⟩
    have hp0 := hp.lo
    have hp1 := hp.hi
    have fin : ∀ (x : PySem.Str) (n : Nat) (H1 : Hp), x.length ≤ 1000 → fault x.cps.toList = some n → DD D G H1 → 2 ≤ sizeLine ∧ ∀ t, H1 t = none → Q (.ref t) (upd H1 t (.tup [.str x, .int (n : Nat)])) := fun x n H1 hx hf d1 =>
      ⟨by decide, fun t ht => k x n t _ hx hf (d1.up (Ex.new ht)) upd_same (fresh_back d1.ex ht)⟩
    refine r_qasg (r_off (m := p.length + 1) d (by omega) (ea_cons (ev_var rfl) (ea_cons (ev_addN (b := 1) (ev_lenS (p := p) (ev_var rfl) (by omega)) ev_c) ea_nil)) fun n H1 hn _ d1 => ?_)
    refine r_qasg (r_op (x := .str "2x _-O!") ev_c fun H2 e2 => r_off (m := 7) (d1.up e2) (by decide) (ea_cons (ev_var rfl) (ea_cons ev_c ea_nil)) fun r H3 hr3 _ d3 => ?_)
    obtain ⟨c, hc, hc2⟩ := odd_signs r hr3
    refine ⟨"2x _-O!", _, c, rfl, rfl, by decide, hc, ?_⟩
    refine r_qasg (r_off (m := 4) d3 (by decide) (ea_cons (ev_var rfl) (ea_cons ev_c ea_nil)) fun kd H4 _ _ d4 => ?_)
    refine q_when (b := decide (V.int (kd : Nat) = V.int 0)) (et_test (ev_op (ev_var rfl) ev_c (rv_eq rfl))) (fun hb H5 e5 => ?_) (fun hb H5 e5 => ?_)
    · refine r_qasg (r_off (m := 13) (d4.up e5) (by decide) (ea_cons (ev_var rfl) (ea_cons ev_c ea_nil)) fun m H6 hm _ d6 => ?_)
      refine ev_repS (b := false) (n := m) (ev_is ev_c (by rw [txt0])) (ev_var rfl) (by omega) H6 (Ex.refl H6) _ fun H7 e7 => ⟨_, rfl, fin _ m H7 ?_ ?_ (d6.up e7)⟩
      · rw [txt_len, List.length_replicate]
        omega
      · rw [txt_cps, List.map_replicate]
        exact fault_zeros (by omega)
    have d5 := d4.up e5
    refine q_when (b := decide (V.int (kd : Nat) = V.int 1)) (et_test (ev_op (ev_var rfl) ev_c (rv_eq rfl))) (fun hb H6 e6 => ?_) (fun hb H6 e6 => ?_)
    · have d6 := d5.up e6
      refine r_rtup (r_op2 (ta := tM1 _ _ _) ⟨⟨_, rfl⟩, ?_⟩)
      refine r_cOff (c := 13) (m := 4) (ta := tCons (tVar 0) (tCons (tC (.int 4)) tNil)) d6 (by decide) (ea_cons (ev_var rfl) (ea_cons ev_c ea_nil)) fun r1 H7 hr1 _ d7 => ?_
      refine ⟨_, rfl, by omega, by omega, fun Dl hDl => ?_⟩
      have hDD : Dl ≠ D := d7.ne hDl
      have hG : G Dl = none := fresh_back d7.ex hDl
      refine lc_range (lo := 0) (n := (((13 + r1 : Nat) : Int)).toNat) (fun i H' => ∃ bs : List Bool, bs.length = i ∧ DD D G H' ∧ H' Dl = some (.lst (bs.map fun b => .str ⟨#[sg b]⟩))) ⟨[], rfl, (d7.up (Ex.new hDl)), upd_same⟩ (fun i H' hi pr => ?_) (fun H' pr => ?_)
      · obtain ⟨bs, hbs, d', hl⟩ := pr
        refine ⟨rfl, r_yes ?_⟩
        refine r_op (x := .str "01") ev_c fun H0 e0 => r_off (m := 2) (d'.up e0) (by decide) (ea_cons (ev_var rfl) (ea_cons ev_c ea_nil)) fun r2 H8 hr2 e8 d8 => ⟨"01", _, _, rfl, rfl, by decide, two_signs r2 hr2, ?_⟩
        have hl8 := e8 _ _ hDD (e0 _ _ hl)
        refine ⟨_, hl8, by rw [List.length_map]; exact small1000 (by omega), bs ++ [decide (r2 = 1)], by simp [hbs], d8.set hG hDD, ?_⟩
        rw [upd_same, List.map_append]
        rfl
      · obtain ⟨bs, hbs, d', hl⟩ := pr
        have hlen : 13 ≤ bs.length ∧ bs.length ≤ 16 := by omega
        refine ⟨"", Dl, bs.map fun b => ⟨#[sg b]⟩, rfl, rfl, .inl (sq_of (hl.trans (by rw [List.map_map]; rfl))), ?_, ?_⟩
        · have hs : ∀ l : List Bool, ((l.map fun b => (⟨#[sg b]⟩ : PySem.Str)).map (·.length)).sum = l.length := by
            intro l
            induction l with
            | nil => rfl
            | cons a l ih =>
              rw [List.map_cons, List.map_cons, List.sum_cons, ih, List.length_cons]
              show 1 + l.length = l.length + 1
              omega
          rw [hs]
          show bs.length + _ * 0 ≤ 16777216
          omega
        · rw [join_txt]
          refine r_op (x := .str "!") ev_c fun H8 e8 => r_off (m := 2) (d'.up e8) (by decide) (ea_cons (ev_var rfl) (ea_cons ev_c ea_nil)) fun r3 H9 hr9 _ d9 => ⟨33, r3, rfl, rfl, by omega, txt bs, ⟨(List.replicate r3 33).toArray⟩, rfl, rfl, ?_, ?_⟩
          · show (txt bs).length + (List.replicate r3 33).toArray.size ≤ sizeLine
            rw [txt_len, List.size_toArray, List.length_replicate]
            exact szl (by omega)
          · refine fin _ 12 H9 ?_ ?_ d9
            · rw [app_len, txt_len]
              show bs.length + (List.replicate r3 33).toArray.size ≤ 1000
              rw [List.size_toArray, List.length_replicate]
              omega
            · rw [app_codes, txt_cps]
              exact fault_long hlen.1
    · have d6 := d5.up e6
      refine r_rtup (r_bang (x := ((txt (p.take n) ++ ⟨#[c]⟩) ++ txt (p.drop n))) d6 (ev_addZ (ev_addZ (ev_take (p := p) (ev_var rfl) (ev_var rfl) (by omega)) (ev_var rfl) ?_) (ev_drop (p := p) (ev_var rfl) (ev_var rfl) (by omega)) ?_) ?_ (ea_cons (ev_var rfl) (ea_cons ev_c ea_nil)) fun z H7 hz d7 => ⟨_, rfl, fin _ n H7 ?_ ?_ d7⟩)
      · rw [txt_len, List.length_take]
        show _ + 1 ≤ 1000
        omega
      · rw [app_len, txt_len, txt_len, List.length_take, List.length_drop]
        show _ + 1 + _ ≤ 1000
        omega
      · rw [app_len, app_len, txt_len, txt_len, List.length_take, List.length_drop]
        show _ + 1 + _ ≤ 900
        omega
      · rw [app_len, app_len, app_len, txt_len, txt_len, List.length_take, List.length_drop]
        show _ + 1 + _ + _ ≤ 1000
        omega
      · rw [app_codes, app_codes, app_codes, List.append_assoc, List.append_assoc, txt_cps]
        exact fault_sign (by omega) hp1 hc2
end
end Bm
namespace Bm
open PySem PySem.Spec PyProof.Rows L2 Evl
section
variable {P : Program} {w : World} {K : PySem.W.Frag} {mg : PySem.Str → Option Value} {base : Heap}
/-! ### law -/
abbrev s_law : Stmt := topS 44
theorem sc_law : FnScope ["_law_script", "_law_d", "_law_one", "_law_other", "_law_bad_here", "_law_at", "_law_far", "_law_works", "_law_beat", "_law_beats", "_law_rows", "_law_place", "_law_work", "_law_k"] ["_law_script"] (defScope s_law) := ⟨rfl, rfl, rfl, by decide +kernel, rfl, by decide +kernel, by decide +kernel⟩
open LamX NdefX
theorem room65 {k : Nat} {A : Around} (r : Room k A) : A.units + 65 < cLine := by
  have := r.un
  omega
def spLaw (K : PySem.W.Frag) : Sp := fun vs H Q _ => ∃ (a : Addr) (ns : List Int), vs = [.ref a] ∧ SqL K H a (ns.map V.int) ∧ ns.length ≤ 63 ∧ H (He.cT K ("law", none)).2 = some (.tbl #[]) ∧ ∀ H', Q (.bl true) H'
abbrev lawX (P : Program) (w : World) (K : PySem.W.Frag) (mg : PySem.Str → Option Value) (base : Heap) (f : Addr) (cdv : Value) (A : Around) (outer : List Env) (s : Shared) (H : Hp) (E : XK) : Cx := (cxOf CX0 P w K mg base ["_law_script", "_law_d", "_law_one", "_law_other", "_law_bad_here", "_law_at", "_law_far", "_law_works", "_law_beat", "_law_beats", "_law_rows", "_law_place", "_law_work", "_law_k"] "law" (defScope s_law) f cdv A outer s H E).nox
theorem g_pair {H : Hp} {σ : L2.St} {T : Addr} {x1 x2 : V} {i j : Nat} {Q : L2.St → Hp → Prop} (hT : H T = some (.tup [x1, x2])) (h : Q ((σ.set i (some x1)).set j (some x2)) H) : gTup K 2 (gCons (gName i) (gCons (gName j) gNil)) (.ref T) σ H Q :=
  ⟨T, [x1, x2], rfl, .inl (.inl hT), rfl, x1, [x2], rfl, x2, [], rfl, rfl, h⟩
/-- [-1, k, k + far][far % 3] -/
theorem pick3 (k far : Nat) : ∃ b : Int, ¬ (0 ≤ b ∧ b < (k : Nat)) ∧ ∀ {K : PySem.W.Frag} {σ : L2.St} {H : Hp} {tb : TE}, Ev tb σ H (.int (far : Nat)) → Ev (tOp (rIxL K) (tLst (tCons (tUn (rU fun i => .int (-i)) (tC (.int 1))) (tCons (tC (.int (k : Nat))) (tCons (tOp (rI0 fun i j => .int (i + j)) (tC (.int (k : Nat))) tb) tNil)))) (tOp (rI (fun _ j => 0 < j) fun i j => .int (i % j)) tb (tC (.int 3)))) σ H (.int b) := by
  have hm : far % 3 < 3 := Nat.mod_lt _ (by decide)
  have key : ∀ (b : Int), ([V.int (-1), .int (k : Nat), .int ((k + far : Nat) : Int)])[far % 3]? = some (.int b) → ∀ {K : PySem.W.Frag} {σ : L2.St} {H : Hp} {tb : TE}, Ev tb σ H (.int (far : Nat)) → Ev (tOp (rIxL K) (tLst (tCons (tUn (rU fun i => .int (-i)) (tC (.int 1))) (tCons (tC (.int (k : Nat))) (tCons (tOp (rI0 fun i j => .int (i + j)) (tC (.int (k : Nat))) tb) tNil)))) (tOp (rI (fun _ j => 0 < j) fun i j => .int (i % j)) tb (tC (.int 3)))) σ H (.int b) := fun b hb {K σ H tb} hf H1 e1 Q kq => by
    refine el_lst (ea_cons (ev_un ev_c ru_neg) (ea_cons ev_c (ea_cons (ev_addN (a := k) ev_c hf) ea_nil))) (by show 3 ≤ 100000; decide) H1 e1 _ fun pl H2 hp e2 h2 => ?_
    refine ev_modN (b := 3) (hf.mono (e1.trans e2)) (ev_c (v := .int ((3 : Nat) : Int))) (by decide) H2 (Ex.refl H2) _ fun H3 e3 => ?_
    exact ⟨pl, _, _, _, rfl, rfl, sq_of (e3 _ _ h2), atI_nat hb, kq H3 (e2.trans e3)⟩
  rcases (show far % 3 = 0 ∨ far % 3 = 1 ∨ far % 3 = 2 by omega) with h | h | h
  · exact ⟨-1, by omega, key _ (by rw [h]; rfl)⟩
  · exact ⟨(k : Nat), by omega, key _ (by rw [h]; rfl)⟩
  · exact ⟨((k + far : Nat) : Int), by omega, key _ (by rw [h]; rfl)⟩
theorem pat_up {m n : Nat} {p : List Bool} (h : Pat m p) (hm : m ≤ n) : Pat n p := ⟨h.lo, Nat.le_trans h.hi hm, h.has⟩
theorem cutV_take (xs : List V) (k : Nat) : cutV xs none (some (k : Nat)) = xs.take k := by
  unfold cutV
  rw [HT.sIx_none, show HT.sIx xs.length xs.length (some ((k : Nat) : Int)) = min k xs.length from HT.sIx_nat _ _ _, List.drop_zero, Nat.sub_zero]
  by_cases h : k ≤ xs.length
  · rw [Nat.min_eq_left h]
  · rw [Nat.min_eq_right (by omega), List.take_length, List.take_of_length_le (by omega)]
theorem cutV_drop (xs : List V) (k : Nat) : cutV xs (some (k : Nat)) none = xs.drop k := by
  unfold cutV
  rw [HT.sIx_none, show HT.sIx xs.length 0 (some ((k : Nat) : Int)) = min k xs.length from HT.sIx_nat _ _ _, List.take_of_length_le (by rw [List.length_drop]; exact Nat.le_refl _)]
  by_cases h : k ≤ xs.length
  · rw [Nat.min_eq_left h]
  · rw [Nat.min_eq_right (by omega), List.drop_length, List.drop_eq_nil_of_le (by omega)]
/-- the rows that are handed to front: the bad one stands at its place, good ones ahead -/
theorem rows_ok {ps : List (List Bool)} {x : PySem.Str} {place r : Nat} (hpl : place ≤ ps.length) (h9 : ps.length ≤ 9) (hx : x.length ≤ 1000) (hp : ∀ p ∈ ps, Pat 6 p) :
    ∃ zs : List PySem.Str, cutV (((cutV (ps.map fun p => V.str (txt p)) none (some (place : Nat)) ++ [V.str x]) ++ cutV (ps.map fun p => V.str (txt p)) (some (place : Nat)) none) ++ (List.replicate r [V.str ""]).flatten) none (some ((10 : Nat) : Int)) = zs.map V.str ∧ zs.length ≤ 10 ∧ (∀ z ∈ zs, z.length ≤ 1000) ∧ (∀ i z, i < place → zs[i]? = some z → fault z.cps.toList = none) ∧ zs[place]? = some x := by
  have hA : ((ps.take place).map txt).length = place := by
    rw [List.length_map, List.length_take]
    omega
  refine ⟨(((ps.take place).map txt ++ [x]) ++ ((ps.drop place).map txt ++ List.replicate r ("" : PySem.Str))).take 10, ?_, ?_, fun z hz => ?_, fun i z hi hz => ?_, ?_⟩
  · have e : (List.replicate r [V.str ""]).flatten = (List.replicate r ("" : PySem.Str)).map V.str := by
      induction r with
      | zero => rfl
      | succ r ih =>
        rw [List.replicate_succ, List.replicate_succ, List.flatten_cons, List.map_cons, ih]
        rfl
    rw [cutV_take, cutV_take, cutV_drop, e, List.map_take, List.map_append, List.map_append, List.map_append, List.map_map, List.map_map, List.append_assoc, List.map_take, List.map_drop]
    rfl
  · rw [List.length_take]
    omega
  · have hz := List.mem_of_mem_take hz
    have ht : ∀ (l : List (List Bool)), (∀ y ∈ l, y ∈ ps) → z ∈ l.map txt → z.length ≤ 1000 := fun l hl hz => by
      obtain ⟨y, hy, rfl⟩ := List.mem_map.mp hz
      have := (hp y (hl y hy)).hi
      rw [txt_len]
      omega
    rcases List.mem_append.mp hz with hz | hz
    · rcases List.mem_append.mp hz with hz | hz
      · exact ht _ (fun y hy => List.mem_of_mem_take hy) hz
      · rw [List.mem_singleton.mp hz]
        exact hx
    · rcases List.mem_append.mp hz with hz | hz
      · exact ht _ (fun y hy => List.mem_of_mem_drop hy) hz
      · rw [List.eq_of_mem_replicate hz]
        decide
  · rw [List.getElem?_take, if_pos (by omega), List.append_assoc, List.getElem?_append_left (by omega), List.getElem?_map, List.getElem?_take, if_pos hi] at hz
    cases h : ps[i]? with
    | none =>
      rw [h] at hz
      cases hz
    | some y =>
      rw [h] at hz
      rw [← Option.some.inj hz]
      exact fault_txt (pat_up (hp y (List.mem_of_getElem? h)) (by decide))
  · rw [List.getElem?_take, if_pos (by omega), List.append_assoc, List.getElem?_append_right (by omega), hA, Nat.sub_self]
    rfl
theorem ones_some {m : Nat} {p : List Bool} (h : Pat m p) : 0 < (onesV p).length := by
  obtain ⟨i, hi, e⟩ := List.getElem_of_mem h.has
  have : i ∈ ones p := mem_ones.mpr ⟨hi, by rw [List.getD_eq_getElem?_getD, List.getElem?_eq_getElem hi, e]; rfl⟩
  unfold onesV
  rw [List.length_map]
  exact List.length_pos_of_mem this
theorem front_one (p : List Bool) : natsV (frontL [rowOf p]) = [] ∨ natsV (frontL [rowOf p]) = [.int 0] := by
  have key : ∀ f g : Nat → Bool, (([0] : List Nat).filter g).filter f = [] ∨ (([0] : List Nat).filter g).filter f = [0] := fun f g => by
    cases hg : g 0 <;> cases hf : f 0 <;> simp [hg, hf]
  have h : frontL [rowOf p] = [] ∨ frontL [rowOf p] = [0] := key _ _
  rcases h with h | h
  · exact .inl (by rw [h]; rfl)
  · exact .inr (by rw [h]; rfl)
theorem r_slc {r : V → Option Int → Option Int → Hp → VK → Prop} {te : TE} {tl th : TO} {σ : L2.St} {H : Hp} {Q : VK} (h : te σ H fun x H1 => tl σ H1 fun l H2 => th σ H2 fun u H3 => r x l u H3 Q) : tSl r te tl th σ H Q := h
theorem r_refN {X : Cx} {σ : L2.St} {ta : TA} {H : Hp} {Q : Bool → Hp → Prop} (h : ta σ H fun vs H1 => ∃ (r : Rf) (v : V), vs = [v, .str r.word, .int (r.val : Nat)] ∧ WorkP X σ H1 r v ∧ RetV (.bl true) H1 fun x H2 => ∃ k, x = .bl k ∧ Q (!k) H2) : tNot (tB (fun σ H Q => tRefB X σ ta σ H Q)) σ H Q := h
theorem r_opC1 {r : R2} {sp : Sp} {te tb : TE} {σ : L2.St} {H : Hp} {Q : VK} (h : te σ H fun x H1 => sp [x] H1 (fun y H2 => tb σ H2 fun z H3 => r y z H3 Q) E0) : tOp r (tCall sp [] E0 (tCons te tNil)) tb σ H Q := h
theorem is_tup : kitB "tuple" "tuple" = some true := by decide +kernel
theorem ok_law (D0 : Def1 K mg "law" s_law) (B : Bl mg) (hga : mg "law" = some (.ref (He.ga K "law"))) (TB : TabB base mg (He.cT K ("law", none)).1 (He.cT K ("law", none)).2) (R : Ref P w K mg base)
    (c_law_dice : Cal P w K mg base 1 "_law_dice" ["_law_script", "_law_k"] (spDice K)) (c_law_off : Cal P w K mg base 1 "_law_off" ["_law_d", "_law_most"] spOff) (c_law_pattern : Cal P w K mg base 2 "_law_pattern" ["_law_d", "_law_most"] spPattern) (c_law_bad : Cal P w K mg base 2 "_law_bad" ["_law_d", "_law_pattern_here"] spBad)
    (c_awake : Cal P w K mg base 3 "awake" ["pattern"] spAwake) (c_worst : Cal P w K mg base 4 "worst" ["one", "other", "loose"] (spWorstP K)) (c_front : Cal P w K mg base 4 "front" ["patterns"] (spFront K))
    (x_awake : CalX P w K mg base 4 "awake" ["pattern"] (spX_awake K))
    (x_turned1 : CalX P w K mg base 4 "turned" ["pattern", "by"] (spX_turned1 K))
    (x_least : CalX P w K mg base 4 "least_turn" ["pattern"] (spX_least K))
    (x_worst1 : CalX P w K mg base 4 "worst" ["one", "other", "loose"] (spX_worst1 K))
    (x_fm1 : CalX P w K mg base 4 "first_meet" ["one", "a", "other", "b", "loose"] (spX_fm1 K))
    (x_worst2 : CalX P w K mg base 4 "worst" ["one", "other", "loose"] (spX_worst2 K))
    (x_fm3 : CalX P w K mg base 4 "first_meet" ["one", "a", "other", "b", "loose"] (spX_fm3 K))
    (x_partner1 : CalX P w K mg base 4 "partner" ["one", "beats", "within"] (spX_partner1 K))
    (x_turned2 : CalX P w K mg base 3 "turned" ["pattern", "by"] (spX_turned2 K))
    (x_fm2 : CalX P w K mg base 3 "first_meet" ["one", "a", "other", "b", "loose"] (spX_fm2 K))
    (x_fewest : CalX P w K mg base 2 "fewest" ["beats"] (spX_fewest K))
    (x_paper : CalX P w K mg base 3 "paper" ["beats"] (spX_paper K))
    (x_shows1 : CalX P w K mg base 2 "shows" ["beats", "many", "told"] (spX_shows1 K))
    (x_partner2 : CalX P w K mg base 3 "partner" ["one", "beats", "within"] (spX_partner2 K))
    (x_partner3 : CalX P w K mg base 3 "partner" ["one", "beats", "within"] (spX_partner3 K))
    (x_shows2 : CalX P w K mg base 2 "shows" ["beats", "many", "told"] (spX_shows2 K))
    (x_fm4 : CalX P w K mg base 3 "first_meet" ["one", "a", "other", "b", "loose"] (spX_fm4 K))
    (x_front : CalX P w K mg base 3 "front" ["patterns"] (spX_front K)) : Cal P w K mg base 7 "law" ["_law_script"] (spLaw K) := by
  refine Def1.calT D0 sc_law (fun _ _ _ _ _ _ us hl => match us, hl with | [_], _ => rfl) (fun vs H Q E h => ?_) (fun f cdv hcd hm A outer s H vs Q E hr h => ?_)
  · obtain ⟨a, ns, rfl, _⟩ := h
    rfl
  obtain ⟨oc, od, osl, fd, lk, hcode, hci⟩ := hcd
  obtain ⟨c1, rfl⟩ := He.codeIn_ref hci
  have hfe : f = He.ga K "law" := by
    have z := hm.symm.trans hga
    injection z with z
    injection z
  subst hfe
  obtain rfl := He.codeOf_eq (p := ("law", none)) lk hcode
  obtain ⟨a, ns, rfl, hS, hl, hT, k⟩ := h
  refine ⟨_, (pss_cons (ps_set (i := 1) sc_law.nd rfl (Or.inr rfl) (pe_callC c_law_dice hr (by decide) (pa_cons (pv 0) (pa_cons pe_int pa_nil))))
 (pss_cons (ps_asg (pe_tup (pa_cons (pe_callC c_law_pattern hr (by decide) (pa_cons (pv 1) (pa_cons pe_int pa_nil))) (pa_cons (pe_callC c_law_pattern hr (by decide) (pa_cons (pv 1) (pa_cons pe_int pa_nil))) pa_nil))) (pg_tup rfl (pgs_cons (pg_name (i := 2) sc_law.nd rfl (Or.inr rfl)) (pgs_cons (pg_name (i := 3) sc_law.nd rfl (Or.inr rfl)) pgs_nil))))
 (pss_cons (ps_asg (pe_callC c_law_bad hr (by decide) (pa_cons (pv 1) (pa_cons (pv 2) pa_nil))) (pg_tup rfl (pgs_cons (pg_name (i := 4) sc_law.nd rfl (Or.inr rfl)) (pgs_cons (pg_name (i := 5) sc_law.nd rfl (Or.inr rfl)) pgs_nil))))
 (pss_cut (ps_set (i := 6) sc_law.nd rfl (Or.inr rfl) (pe_callB (call_max2 rfl) (by rfl) B.max (by decide +kernel) (pa_cons pe_int (pa_cons (pe_op op_sub (pe_callC c_law_off hr (by decide) (pa_cons (pv 1) (pa_cons (pe_op op_pow pe_int pe_int) pa_nil))) pe_int) pa_nil))))
 (pss_cons (ps_set (i := 7) sc_law.nd rfl (Or.inl rfl) (pe_lst (pa_cons (pe_lamA TB rfl (lamP_by (sc := defScope s_law) (by decide +kernel)) rfl) (pa_cons (pe_lamD TB rfl (lamP_by (sc := defScope s_law) (by decide +kernel)) rfl rfl) (pa_cons (pe_lamD TB rfl (lamP_by (sc := defScope s_law) (by decide +kernel)) rfl rfl) pa_nil)))))
 (pss_cons (ps_set (i := 7) sc_law.nd rfl (Or.inl rfl) (pe_op op_cat (pv 7) (pe_lst (pa_cons (pe_lamD TB rfl (lamP_by (sc := defScope s_law) (by decide +kernel)) rfl rfl) (pa_cons (pe_lamD TB rfl (lamP_by (sc := defScope s_law) (by decide +kernel)) rfl rfl) pa_nil)))))
 (pss_cons (ps_set (i := 7) sc_law.nd rfl (Or.inl rfl) (pe_op op_cat (pv 7) (pe_lst (pa_cons (pe_lamD TB rfl (lamP_by (sc := defScope s_law) (by decide +kernel)) rfl rfl) (pa_cons (pe_lamD TB rfl (lamP_by (sc := defScope s_law) (by decide +kernel)) rfl rfl) pa_nil)))))
 (pss_cons (ps_expr (pe_bm PySem.F.plainAttrs_list PySem.F.slot_list_append PySem.F.type_list_append mt_append (pv 7) (pa_cons (pe_lamD TB rfl (lamP_by (sc := defScope s_law) (by decide +kernel)) rfl rfl) pa_nil)))
 (pss_cut (ps_if (pt_cmpR (op_neD hr.units) (pe_lcT (own := [("_law_work", 12)]) (g := gName 12) sc_law.nd (pv 7) (blkOk_by (N := ["_law_script", "_law_d", "_law_one", "_law_other", "_law_bad_here", "_law_at", "_law_far", "_law_works", "_law_beat", "_law_beats", "_law_rows", "_law_place", "_law_work", "_law_k"]) (sc := defScope s_law) (by decide +kernel)) (Still.calm rfl) (fun _ _ _ _ _ => (pg_name (i := 12) sc_law.nd rfl (Or.inl rfl))) (fun _ _ _ _ _ _ _ I hfp => pts_one (pt_not (pt_val (pe_refB R hr I hfp (pa_cons (pv 12) (pa_cons pe_str (pa_cons (pv 5) pa_nil))))))) (fun _ _ _ _ _ => (pv 12)) K rfl) (pe_lst pa_nil) (nomark _)) (pss_one (ps_ret pe_bl))
 pss_nil)
 (pss_cons (ps_set (i := 8) sc_law.nd rfl (Or.inr rfl) (pe_ix ix_list (pe_lst (pa_cons (pe_un un_neg pe_int) (pa_cons (pe_callB call_len_str (by rfl) B.len PySem.boot_len (pa_cons (pv 2) pa_nil)) (pa_cons (pe_op op_add (pe_callB call_len_str (by rfl) B.len PySem.boot_len (pa_cons (pv 2) pa_nil)) (pv 6)) (pa_cons (pe_op op_sub (pe_un un_neg pe_int) (pv 6)) pa_nil))))) (pe_callC c_law_off hr (by decide) (pa_cons (pv 1) (pa_cons pe_int pa_nil))) (fun _ _ => rfl)))
 (pss_cons (ps_set (i := 7) sc_law.nd rfl (Or.inl rfl) (pe_lst (pa_cons (pe_lamA TB rfl (lamP_by (sc := defScope s_law) (by decide +kernel)) rfl) (pa_cons (pe_lamD TB rfl (lamP_by (sc := defScope s_law) (by decide +kernel)) rfl rfl) pa_nil))))
 (pss_cons (ps_set (i := 9) sc_law.nd rfl (Or.inr rfl) (pe_ix ix_list (pe_lst (pa_cons pe_int (pa_cons pe_int (pa_cons (pe_op op_add pe_int (pv 6)) (pa_cons (pe_op op_sub (pe_un un_neg pe_int) (pv 6)) pa_nil))))) (pe_callC c_law_off hr (by decide) (pa_cons (pv 1) (pa_cons pe_int pa_nil))) (fun _ _ => rfl)))
 (pss_cons (ps_set (i := 7) sc_law.nd rfl (Or.inl rfl) (pe_op op_cat (pv 7) (pe_lst (pa_cons (pe_lamD TB rfl (lamP_by (sc := defScope s_law) (by decide +kernel)) rfl rfl) (pa_cons (pe_lamD TB rfl (lamP_by (sc := defScope s_law) (by decide +kernel)) rfl rfl) (pa_cons (pe_lamD TB rfl (lamP_by (sc := defScope s_law) (by decide +kernel)) rfl rfl) pa_nil))))))
 (pss_cons (ps_expr (pe_bm PySem.F.plainAttrs_list PySem.F.slot_list_append PySem.F.type_list_append mt_append (pv 7) (pa_cons (pe_lamD TB rfl (lamP_by (sc := defScope s_law) (by decide +kernel)) rfl rfl) pa_nil)))
 (pss_cons (ps_expr (pe_bm PySem.F.plainAttrs_list PySem.F.slot_list_append PySem.F.type_list_append mt_append (pv 7) (pa_cons (pe_lamD TB rfl (lamP_by (sc := defScope s_law) (by decide +kernel)) rfl rfl) pa_nil)))
 (pss_cons (ps_expr (pe_bm PySem.F.plainAttrs_list PySem.F.slot_list_append PySem.F.type_list_append mt_append (pv 7) (pa_cons (pe_lamD TB rfl (lamP_by (sc := defScope s_law) (by decide +kernel)) rfl rfl) pa_nil)))
 (pss_cons (ps_expr (pe_bm PySem.F.plainAttrs_list PySem.F.slot_list_append PySem.F.type_list_append mt_append (pv 7) (pa_cons (pe_lamD TB rfl (lamP_by (sc := defScope s_law) (by decide +kernel)) rfl rfl) pa_nil)))
 (pss_cut (ps_if (pt_cmpR (op_neD hr.units) (pe_lcT (own := [("_law_work", 12)]) (g := gName 12) sc_law.nd (pv 7) (blkOk_by (N := ["_law_script", "_law_d", "_law_one", "_law_other", "_law_bad_here", "_law_at", "_law_far", "_law_works", "_law_beat", "_law_beats", "_law_rows", "_law_place", "_law_work", "_law_k"]) (sc := defScope s_law) (by decide +kernel)) (Still.calm rfl) (fun _ _ _ _ _ => (pg_name (i := 12) sc_law.nd rfl (Or.inl rfl))) (fun _ _ _ _ _ _ _ I hfp => pts_one (pt_not (pt_val (pe_refB R hr I hfp (pa_cons (pv 12) (pa_cons pe_str (pa_cons pe_int pa_nil))))))) (fun _ _ _ _ _ => (pv 12)) K rfl) (pe_lst pa_nil) (nomark _)) (pss_one (ps_ret pe_bl))
 pss_nil)
 (pss_cons (ps_set (i := 10) sc_law.nd rfl (Or.inr rfl) (pe_lc (own := [("_law_k", 13)]) (g := gName 13) rfl sc_law.nd (pi_range1 (by rfl) B.range (pa_cons (pe_ix ix_list (pe_lst (pa_cons (pe_callC c_law_off hr (by decide) (pa_cons (pv 1) (pa_cons pe_int pa_nil))) (pa_cons pe_int pa_nil))) (pe_callTy call_int1 (by rfl) B.int (by decide +kernel) (pa_cons (pe_cmpR op_eq (pe_callC c_law_off hr (by decide) (pa_cons (pv 1) (pa_cons pe_int pa_nil))) pe_int (nomark _)) pa_nil)) (fun _ _ => rfl)) pa_nil)) (blkOk_by (N := ["_law_script", "_law_d", "_law_one", "_law_other", "_law_bad_here", "_law_at", "_law_far", "_law_works", "_law_beat", "_law_beats", "_law_rows", "_law_place", "_law_work", "_law_k"]) (sc := defScope s_law) (by decide +kernel)) (fun _ _ _ _ _ => (pg_name (i := 13) sc_law.nd rfl (Or.inl rfl))) (fun _ _ _ _ _ => pts_nil) (fun _ _ _ _ _ => (pe_callC c_law_pattern hr (by decide) (pa_cons (pv 1) (pa_cons pe_int pa_nil))))))
 (pss_cons (ps_set (i := 11) sc_law.nd rfl (Or.inl rfl) (pe_callC c_law_off hr (by decide) (pa_cons (pv 1) (pa_cons (pe_op op_add (pe_callB call_len_seq (by rfl) B.len PySem.boot_len (pa_cons (pv 10) pa_nil)) pe_int) pa_nil))))
 (pss_cut (ps_set (i := 10) sc_law.nd rfl (Or.inr rfl) (pe_slice sl_list (pe_op op_cat (pe_op op_cat (pe_op op_cat (pe_slice sl_list (pv 10) po_none (po_some (pv 11))) (pe_lst (pa_cons (pv 4) pa_nil))) (pe_slice sl_list (pv 10) (po_some (pv 11)) po_none)) (pe_op op_rep (pe_lst (pa_cons pe_str pa_nil)) (pe_callC c_law_off hr (by decide) (pa_cons (pv 1) (pa_cons pe_int pa_nil))))) po_none (po_some pe_int)))
 (pss_cons (ps_if (pt_not (pt_val (pe_refX R hr (pa_cons (pe_lamA TB rfl (lamP_by (sc := defScope s_law) (by decide +kernel)) rfl) (pa_cons pe_str (pa_cons (pv 11) pa_nil)))))) (pss_one (ps_ret pe_bl))
 pss_nil)
 (pss_one (ps_ret (pe_and (pe_cmpR op_gt (pe_callC c_awake hr (by decide) (pa_cons (pv 2) pa_nil)) pe_int (nomark _)) (pe_and (pe_callB call_isi (by rfl) B.isinstance (by decide +kernel) (pa_cons (pe_callC c_worst hr (by decide) (pa_cons (pv 2) (pa_cons (pv 3) (pa_cons pe_bl pa_nil)))) (pa_cons (pe_bltn (v := .ty "tuple") (by rfl) B.tuple (by decide +kernel) rfl) pa_nil))) (pe_one (pe_cmpR (op_inD (room65 hr)) (pe_callC c_front hr (by decide) (pa_cons (pe_lst (pa_cons (pv 2) pa_nil)) pa_nil)) (pe_lst (pa_cons (pe_lst pa_nil) (pa_cons (pe_lst (pa_cons pe_int pa_nil)) pa_nil))) (by rfl))))))))))))))))))))))))))))), ?_⟩
  have hpow : ∀ {σ : L2.St} {H : Hp}, Ev (tOp (rI CPow fun i j => .int (i ^ j.toNat)) (tC (.int 10)) (tC (.int 6))) σ H (.int ((1000000 : Nat) : Int)) := fun H1 e Q q => ⟨10, 6, rfl, rfl, ⟨by decide, by decide, by decide⟩, q H1 (Ex.refl H1)⟩
  refine r_qasg (r_call (ea_cons (ev_var rfl) (ea_cons ev_c ea_nil)) fun G e1 => ⟨a, ns, 0, rfl, ex_l e1 hS, by omega, fun D ds H2 hD e2 h2 hd => ?_⟩)
  have d : DD D G H2 := ⟨hD, e2, ds, h2, hd⟩
  have hPG := e1 _ _ hT
  refine r_pattern (m := 12) d (by decide) (ea_cons (ev_var rfl) (ea_cons ev_c ea_nil)) fun p H3 hp d3 => r_pattern (m := 12) d3 (by decide) (ea_cons (ev_var rfl) (ea_cons ev_c ea_nil)) fun q H4 hq d4 => ⟨by show 2 ≤ sizeLine; decide, fun t ht => ?_⟩
  refine g_two (K := K) (H := H4) (T := t) ?_
  have d5 := d4.up (Ex.new (o := .tup [.str (txt p), .str (txt q)]) ht)
  refine r_call (ea_cons (ev_var rfl) (ea_cons (ev_var rfl) ea_nil)) fun H6 e6 => ⟨D, G, p, rfl, d5.up e6, hp, fun x n t2 H7 hxl hxf d7 ht2 hG2 => ?_⟩
  refine g_pair (K := K) ht2 ?_
  refine q_cut (M := fun σ H' => ∃ far : Nat, σ = [some (.ref a), some (.ref D), some (.str (txt p)), some (.str (txt q)), some (.str x), some (.int (n : Nat)), some (.int (far : Nat)), none, none, none, none, none, none, none] ∧ Basis D (He.cT K ("law", none)).2 ((lawX P w K mg base (He.ga K "law") (.ref (He.codeOf K ("law", none))) A outer s H E).env.qual ++ "<lambda>") H') ?_ ?_
  · show tCall spOff [] E0 _ _ _ _
    refine r_off (m := 1000000) d7 (by decide) (ea_cons (ev_var rfl) (ea_cons hpow ea_nil)) fun r H8 hr8 _ d8 => ⟨(r : Nat), 500000, rfl, rfl, 0, _, rfl, r - 500000, ?_, d8.at_, TabS.nil (d8.ex _ _ hPG)⟩
    have : (if (r : Int) - 500000 > 0 then (r : Int) - 500000 else 0) = ((r - 500000 : Nat) : Int) := by
      split <;> omega
    rw [this]
    rfl
  rintro σ' H' ⟨far, rfl, B0⟩
  have hW : ∀ H1 H2 v, ExtL H1 H2 → (∀ y7, WorkAt (lawX P w K mg base (He.ga K "law") (.ref (He.codeOf K ("law", none))) A outer s H E) [some (.ref a), some (.ref D), some (.str (txt p)), some (.str (txt q)), some (.str x), some (.int (n : Nat)), some (.int (far : Nat)), y7, none, none, none, none, none, none] H1 (.pat n) v) → ∀ y7, WorkAt (lawX P w K mg base (He.ga K "law") (.ref (He.codeOf K ("law", none))) A outer s H E) [some (.ref a), some (.ref D), some (.str (txt p)), some (.str (txt q)), some (.str x), some (.int (n : Nat)), some (.int (far : Nat)), y7, none, none, none, none, none, none] H2 (.pat n) v := fun H1 H2 v e h y7 => (h y7).extL e
  refine q_new (W := fun H1 v => ∀ y7, WorkAt (lawX P w K mg base (He.ga K "law") (.ref (He.codeOf K ("law", none))) A outer s H E) [some (.ref a), some (.ref D), some (.str (txt p)), some (.str (txt q)), some (.str x), some (.int (n : Nat)), some (.int (far : Nat)), y7, none, none, none, none, none, none] H1 (.pat n) v) B0 (mk_cons hW (fun f0 c0 dfl H1 hd l y7 => work_0 (fr := ["_law_bad_here"]) (js := [4]) ["_law_bad_here"] hd l (sc := defScope s_law) rfl (by decide +kernel) rfl (by decide +kernel) (fun _ _ _ => rfl) (fun _ A outer s H g E hr2 => pe_callX x_awake hr2 (by decide) (L2N.passes_call (L2N.takes_of rfl rfl rfl rfl) fun _ _ _ _ h => h) (pa_cons (pv 0) pa_nil)) (fun H E Q hw => r_call (ea_cons (ev_var rfl) (ea_nil)) fun H1 e1 => ⟨x, n, rfl, hxl, hxf, hw.up e1⟩)) (mk_cons hW (fun f0 c0 dfl H1 hd l y7 => work_D (fr := ["_law_bad_here"]) (js := [4]) (y := "_law_a") ["_law_a", "_law_bad_here"] hd l (sc := defScope s_law) rfl (by decide +kernel) rfl (by decide +kernel) (fun _ _ _ _ _ => ⟨_, rfl, rfl⟩) (fun _ A outer s H g E hr2 => pe_callX x_turned1 hr2 (by decide) (L2N.passes_call (L2N.takes_of rfl rfl rfl rfl) fun _ _ _ _ h => h) (pa_cons (pv 1) (pa_cons (pe_un un_neg pe_int) pa_nil))) (fun H E Q v hw => r_call (ea_cons (ev_var rfl) (ea_cons (ev_un ev_c ru_neg) (ea_nil))) fun H1 e1 => ⟨x, n, _, rfl, hxl, hxf, hw.up e1⟩)) (mk_cons hW (fun f0 c0 dfl H1 hd l y7 => work_D (fr := ["_law_bad_here"]) (js := [4]) (y := "_law_b") ["_law_b", "_law_bad_here"] hd l (sc := defScope s_law) rfl (by decide +kernel) rfl (by decide +kernel) (fun _ _ _ _ _ => ⟨_, rfl, rfl⟩) (fun _ A outer s H g E hr2 => pe_callX x_least hr2 (by decide) (L2N.passes_call (L2N.takes_of rfl rfl rfl rfl) fun _ _ _ _ h => h) (pa_cons (pv 1) pa_nil)) (fun H E Q v hw => r_call (ea_cons (ev_var rfl) (ea_nil)) fun H1 e1 => ⟨x, n, rfl, hxl, hxf, hw.up e1⟩)) mk_nil))) (by decide) hW fun WL xs H1 e1 B1 hn1 hL1 hx1 hl1 => ?_
  refine q_more B1 rfl hL1 hx1 hl1 (mk_cons hW (fun f0 c0 dfl H1 hd l y7 => work_D (fr := ["_law_bad_here"]) (js := [4]) (y := "_law_c") ["_law_c", "_law_bad_here"] hd l (sc := defScope s_law) rfl (by decide +kernel) rfl (by decide +kernel) (fun _ _ _ _ _ => ⟨_, rfl, rfl⟩) (fun _ A outer s H g E hr2 => pe_callX x_worst1 hr2 (by decide) (L2N.passes_call (L2N.takes_of rfl rfl rfl rfl) fun _ _ _ _ h => h) (pa_cons (pv 1) (pa_cons pe_str (pa_cons pe_bl pa_nil)))) (fun H E Q v hw => r_call (ea_cons (ev_var rfl) (ea_cons ev_c (ea_cons ev_c (ea_nil)))) fun H1 e1 => ⟨x, n, _, _, rfl, hxl, hxf, hw.up e1⟩)) (mk_cons hW (fun f0 c0 dfl H1 hd l y7 => work_D (fr := ["_law_bad_here"]) (js := [4]) (y := "_law_e") ["_law_e", "_law_bad_here"] hd l (sc := defScope s_law) rfl (by decide +kernel) rfl (by decide +kernel) (fun _ _ _ _ _ => ⟨_, rfl, rfl⟩) (fun _ A outer s H g E hr2 => pe_callX x_fm1 hr2 (by decide) (L2N.passes_call (L2N.takes_of rfl rfl rfl rfl) fun _ _ _ _ h => h) (pa_cons (pv 1) (pa_cons (pe_un un_neg pe_int) (pa_cons pe_str (pa_cons (pe_un un_neg pe_int) (pa_cons pe_bl pa_nil)))))) (fun H E Q v hw => r_call (ea_cons (ev_var rfl) (ea_cons (ev_un ev_c ru_neg) (ea_cons ev_c (ea_cons (ev_un ev_c ru_neg) (ea_cons ev_c (ea_nil)))))) fun H1 e1 => ⟨x, n, _, _, _, _, rfl, hxl, hxf, hw.up e1⟩)) mk_nil)) (by decide) hW fun WL xs H2 e2 B2 hn2 hL2 hx2 hl2 => ?_
  refine q_more B2 rfl hL2 hx2 hl2 (mk_cons hW (fun f0 c0 dfl H1 hd l y7 => work_D (fr := ["_law_one", "_law_bad_here"]) (js := [2, 4]) (y := "_law_f") ["_law_f", "_law_one", "_law_bad_here"] hd l (sc := defScope s_law) rfl (by decide +kernel) rfl (by decide +kernel) (fun _ _ _ _ _ => ⟨_, rfl, rfl⟩) (fun _ A outer s H g E hr2 => pe_callX x_worst2 hr2 (by decide) (L2N.passes_call (L2N.takes_of rfl rfl rfl rfl) fun _ _ _ _ h => h) (pa_cons (pv 1) (pa_cons (pv 2) (pa_cons pe_bl pa_nil)))) (fun H E Q v hw => r_call (ea_cons (ev_var rfl) (ea_cons (ev_var rfl) (ea_cons ev_c (ea_nil)))) fun H1 e1 => ⟨p, x, n, _, rfl, hp, hxl, hxf, hw.up e1⟩)) (mk_cons hW (fun f0 c0 dfl H1 hd l y7 => work_D (fr := ["_law_one", "_law_bad_here"]) (js := [2, 4]) (y := "_law_g") ["_law_g", "_law_one", "_law_bad_here"] hd l (sc := defScope s_law) rfl (by decide +kernel) rfl (by decide +kernel) (fun _ _ _ _ _ => ⟨_, rfl, rfl⟩) (fun _ A outer s H g E hr2 => pe_callX x_fm3 hr2 (by decide) (L2N.passes_call (L2N.takes_of rfl rfl rfl rfl) fun _ _ _ _ h => h) (pa_cons (pv 1) (pa_cons pe_int (pa_cons (pv 2) (pa_cons (pe_un un_neg pe_int) (pa_cons pe_bl pa_nil)))))) (fun H E Q v hw => r_call (ea_cons (ev_var rfl) (ea_cons (ev_c (v := .int ((0 : Nat) : Int))) (ea_cons (ev_var rfl) (ea_cons (ev_un ev_c ru_neg) (ea_cons ev_c (ea_nil)))))) fun H1 e1 => ⟨p, 0, x, n, _, _, rfl, hp, hp.lo, hxl, hxf, hw.up e1⟩)) mk_nil)) (by decide) hW fun WL xs H3 e3 B3 hn3 hL3 hx3 hl3 => ?_
  refine q_put (K := K) B3 rfl hn3 hL3 hx3 hl3 (mk_cons hW (fun f0 c0 dfl H1 hd l y7 => work_D (fr := ["_law_bad_here"]) (js := [4]) (y := "_law_h") ["_law_h", "_law_bad_here"] hd l (sc := defScope s_law) rfl (by decide +kernel) rfl (by decide +kernel) (fun _ _ _ _ _ => ⟨_, rfl, rfl⟩) (fun _ A outer s H g E hr2 => pe_callX x_partner1 hr2 (by decide) (L2N.passes_call (L2N.takes_of rfl rfl rfl rfl) fun _ _ _ _ h => h) (pa_cons (pv 1) (pa_cons pe_int (pa_cons (pe_un un_neg pe_int) pa_nil)))) (fun H E Q v hw => r_call (ea_cons (ev_var rfl) (ea_cons ev_c (ea_cons (ev_un ev_c ru_neg) (ea_nil)))) fun H1 e1 => ⟨x, n, _, _, rfl, hxl, hxf, hw.up e1⟩)) mk_nil) (by decide) hW fun xs H4 e4 B4 hL4 hx4 hl4 => ?_
  refine q_cut (M := fun σ H5 => ∃ y7, σ = [some (.ref a), some (.ref D), some (.str (txt p)), some (.str (txt q)), some (.str x), some (.int (n : Nat)), some (.int (far : Nat)), y7, none, none, none, none, none, none] ∧ Basis D (He.cT K ("law", none)).2 ((lawX P w K mg base (He.ga K "law") (.ref (He.codeOf K ("law", none))) A outer s H E).env.qual ++ "<lambda>") H5) ?_ ?_
  · exact s_when (b := false) (et_test (ev_works (K := K) (r := .pat n) rfl hL4 (by omega) (fun _ => rfl) (fun _ => rfl) (fun _ _ => ev_c) (fun _ _ => ev_var rfl) fun v hv => hx4 v hv _)) (fun hb => nomatch hb) (fun _ H5 e5 => ⟨_, rfl, B4.up e5⟩)
  clear hW e1 B1 hn1 hL1 hx1 hl1 e2 B2 hn2 hL2 hx2 hl2 e3 B3 hn3 hL3 hx3 hl3 e4 B4 hL4 hx4 hl4 B0
  rintro σ' H' ⟨y7, rfl, B0⟩
  have hp0 := hp.lo
  have hp1 := hp.hi
  refine r_qasg (r_menu (K := K) (m := 4) (vs := [.int (-1), .int (p.length : Nat), .int ((p.length + far : Nat) : Int), .int (-1 - (far : Nat))]) B0.dd (ea_cons (ev_un ev_c ru_neg) (ea_cons (ev_lenS (p := p) (ev_var rfl) (by omega)) (ea_cons (ev_addN (ev_lenS (p := p) (ev_var rfl) (by omega)) (ev_var rfl)) (ea_cons (ev_op (ev_un ev_c ru_neg) (ev_var rfl) rv_I0) ea_nil)))) rfl (by decide) (fun H1 _ => ea_cons (ev_var rfl) (ea_cons ev_c ea_nil)) fun v H1 hv _ d1 => ?_)
  obtain ⟨b, rfl, hb⟩ : ∃ b : Int, v = .int b ∧ ¬ (0 ≤ b ∧ b < (p.length : Nat)) := by
    simp only [List.mem_cons, List.not_mem_nil, or_false] at hv
    rcases hv with rfl | rfl | rfl | rfl
    · exact ⟨_, rfl, by omega⟩
    · exact ⟨_, rfl, by omega⟩
    · exact ⟨_, rfl, by omega⟩
    · exact ⟨_, rfl, by omega⟩
  have B1 := B0.after d1
  clear d1 B0 hv
  have hW : ∀ H1 H2 v, ExtL H1 H2 → (∀ y7 y9, WorkAt (lawX P w K mg base (He.ga K "law") (.ref (He.codeOf K ("law", none))) A outer s H E) [some (.ref a), some (.ref D), some (.str (txt p)), some (.str (txt q)), some (.str x), some (.int (n : Nat)), some (.int (far : Nat)), y7, some (.int b), y9, none, none, none, none] H1 .num v) → ∀ y7 y9, WorkAt (lawX P w K mg base (He.ga K "law") (.ref (He.codeOf K ("law", none))) A outer s H E) [some (.ref a), some (.ref D), some (.str (txt p)), some (.str (txt q)), some (.str x), some (.int (n : Nat)), some (.int (far : Nat)), y7, some (.int b), y9, none, none, none, none] H2 .num v := fun H1 H2 v e h y7 y9 => (h y7 y9).extL e
  refine q_new (W := fun H1 v => ∀ y7 y9, WorkAt (lawX P w K mg base (He.ga K "law") (.ref (He.codeOf K ("law", none))) A outer s H E) [some (.ref a), some (.ref D), some (.str (txt p)), some (.str (txt q)), some (.str x), some (.int (n : Nat)), some (.int (far : Nat)), y7, some (.int b), y9, none, none, none, none] H1 .num v) B1 (mk_cons hW (fun f0 c0 dfl H1 hd l y7 y9 => work_0 (fr := ["_law_one", "_law_beat"]) (js := [2, 8]) ["_law_one", "_law_beat"] hd l (sc := defScope s_law) rfl (by decide +kernel) rfl (by decide +kernel) (fun _ _ _ => rfl) (fun _ A outer s H g E hr2 => pe_callX x_turned2 hr2 (by decide) (L2N.passes_call (L2N.takes_of rfl rfl rfl rfl) fun _ _ _ _ h => h) (pa_cons (pv 0) (pa_cons (pv 1) pa_nil))) (fun H E Q hw => r_call (ea_cons (ev_var rfl) (ea_cons (ev_var rfl) (ea_nil))) fun H1 e1 => ⟨p, b, rfl, hp, hb, hw.up e1⟩)) (mk_cons hW (fun f0 c0 dfl H1 hd l y7 y9 => work_D (fr := ["_law_one", "_law_beat"]) (js := [2, 8]) (y := "_law_a") ["_law_a", "_law_one", "_law_beat"] hd l (sc := defScope s_law) rfl (by decide +kernel) rfl (by decide +kernel) (fun _ _ _ _ _ => ⟨_, rfl, rfl⟩) (fun _ A outer s H g E hr2 => pe_callX x_fm2 hr2 (by decide) (L2N.passes_call (L2N.takes_of rfl rfl rfl rfl) fun _ _ _ _ h => h) (pa_cons (pv 1) (pa_cons (pv 2) (pa_cons pe_str (pa_cons pe_int (pa_cons pe_bl pa_nil)))))) (fun H E Q v hw => r_call (ea_cons (ev_var rfl) (ea_cons (ev_var rfl) (ea_cons ev_c (ea_cons ev_c (ea_cons ev_c (ea_nil)))))) fun H1 e1 => ⟨p, b, _, _, _, rfl, hp, hb, hw.up e1⟩)) mk_nil)) (by decide) hW fun WL xs H2 e2 B2 hn2 hL2 hx2 hl2 => ?_
  refine r_qasg (r_menu (K := K) (m := 4) (vs := [.int 0, .int 13, .int ((13 + far : Nat) : Int), .int (-1 - (far : Nat))]) B2.dd (ea_cons ev_c (ea_cons ev_c (ea_cons (ev_addN (a := 13) ev_c (ev_var rfl)) (ea_cons (ev_op (ev_un ev_c ru_neg) (ev_var rfl) rv_I0) ea_nil)))) rfl (by decide) (fun H1 _ => ea_cons (ev_var rfl) (ea_cons ev_c ea_nil)) fun v H3 hv _ d3 => ?_)
  obtain ⟨b2, rfl, hb2⟩ : ∃ b : Int, v = .int b ∧ ¬ (1 ≤ b ∧ b ≤ 12) := by
    simp only [List.mem_cons, List.not_mem_nil, or_false] at hv
    rcases hv with rfl | rfl | rfl | rfl
    · exact ⟨_, rfl, by omega⟩
    · exact ⟨_, rfl, by omega⟩
    · exact ⟨_, rfl, by omega⟩
    · exact ⟨_, rfl, by omega⟩
  have B3 := B2.after d3
  have hL3 : H3 WL = some (.lst xs) := d3.ex _ _ (off_in hn2 hL2)
  have hx3 : ∀ v ∈ xs, ∀ y7, WorkAt (lawX P w K mg base (He.ga K "law") (.ref (He.codeOf K ("law", none))) A outer s H E) [some (.ref a), some (.ref D), some (.str (txt p)), some (.str (txt q)), some (.str x), some (.int (n : Nat)), some (.int (far : Nat)), y7, some (.int b), some (.int b2), none, none, none, none] H3 .num v := fun v hv y7 => (hx2 v hv y7 _).extL (B2.drawn d3)
  clear hW hx2 hL2 B2 d3 e2 hv
  have hW : ∀ H1 H2 v, ExtL H1 H2 → (∀ y7, WorkAt (lawX P w K mg base (He.ga K "law") (.ref (He.codeOf K ("law", none))) A outer s H E) [some (.ref a), some (.ref D), some (.str (txt p)), some (.str (txt q)), some (.str x), some (.int (n : Nat)), some (.int (far : Nat)), y7, some (.int b), some (.int b2), none, none, none, none] H1 .num v) → ∀ y7, WorkAt (lawX P w K mg base (He.ga K "law") (.ref (He.codeOf K ("law", none))) A outer s H E) [some (.ref a), some (.ref D), some (.str (txt p)), some (.str (txt q)), some (.str x), some (.int (n : Nat)), some (.int (far : Nat)), y7, some (.int b), some (.int b2), none, none, none, none] H2 .num v := fun H1 H2 v e h y7 => (h y7).extL e
  refine q_more (W := fun H1 v => ∀ y7, WorkAt (lawX P w K mg base (He.ga K "law") (.ref (He.codeOf K ("law", none))) A outer s H E) [some (.ref a), some (.ref D), some (.str (txt p)), some (.str (txt q)), some (.str x), some (.int (n : Nat)), some (.int (far : Nat)), y7, some (.int b), some (.int b2), none, none, none, none] H1 .num v) B3 rfl hL3 hx3 hl2 (mk_cons hW (fun f0 c0 dfl H1 hd l y7 => work_D (fr := ["_law_beats"]) (js := [9]) (y := "_law_b") ["_law_b", "_law_beats"] hd l (sc := defScope s_law) rfl (by decide +kernel) rfl (by decide +kernel) (fun _ _ _ _ _ => ⟨_, rfl, rfl⟩) (fun _ A outer s H g E hr2 => pe_callX x_fewest hr2 (by decide) (L2N.passes_call (L2N.takes_of rfl rfl rfl rfl) fun _ _ _ _ h => h) (pa_cons (pv 1) pa_nil)) (fun H E Q v hw => r_call (ea_cons (ev_var rfl) (ea_nil)) fun H1 e1 => ⟨b2, rfl, hb2, hw.up e1⟩)) (mk_cons hW (fun f0 c0 dfl H1 hd l y7 => work_D (fr := ["_law_beats"]) (js := [9]) (y := "_law_c") ["_law_c", "_law_beats"] hd l (sc := defScope s_law) rfl (by decide +kernel) rfl (by decide +kernel) (fun _ _ _ _ _ => ⟨_, rfl, rfl⟩) (fun _ A outer s H g E hr2 => pe_callX x_paper hr2 (by decide) (L2N.passes_call (L2N.takes_of rfl rfl rfl rfl) fun _ _ _ _ h => h) (pa_cons (pv 1) pa_nil)) (fun H E Q v hw => r_call (ea_cons (ev_var rfl) (ea_nil)) fun H1 e1 => ⟨b2, rfl, hb2, hw.up e1⟩)) (mk_cons hW (fun f0 c0 dfl H1 hd l y7 => work_D (fr := ["_law_beats"]) (js := [9]) (y := "_law_e") ["_law_e", "_law_beats"] hd l (sc := defScope s_law) rfl (by decide +kernel) rfl (by decide +kernel) (fun _ _ _ _ _ => ⟨_, rfl, rfl⟩) (fun _ A outer s H g E hr2 => pe_callX x_shows1 hr2 (by decide) (L2N.passes_call (L2N.takes_of rfl rfl rfl rfl) fun _ _ _ _ h => h) (pa_cons (pv 1) (pa_cons pe_int (pa_cons (pe_lst pa_nil) pa_nil)))) (fun H E Q v hw => ⟨_, rfl, Nat.zero_le _, fun pz hpz => ⟨b2, _, _, rfl, hb2, hw.up (Ex.new hpz)⟩⟩)) mk_nil))) (by decide) hW fun WL xs H4 e4 B4 hn4 hL4 hx4 hl4 => ?_
  refine q_put (K := K) B4 rfl hn4 hL4 hx4 hl4 (mk_cons hW (fun f0 c0 dfl H1 hd l y7 => work_D (fr := ["_law_one", "_law_beats"]) (js := [2, 9]) (y := "_law_f") ["_law_f", "_law_one", "_law_beats"] hd l (sc := defScope s_law) rfl (by decide +kernel) rfl (by decide +kernel) (fun _ _ _ _ _ => ⟨_, rfl, rfl⟩) (fun _ A outer s H g E hr2 => pe_callX x_partner2 hr2 (by decide) (L2N.passes_call (L2N.takes_of rfl rfl rfl rfl) fun _ _ _ _ h => h) (pa_cons (pv 1) (pa_cons (pv 2) (pa_cons pe_int pa_nil)))) (fun H E Q v hw => r_call (ea_cons (ev_var rfl) (ea_cons (ev_var rfl) (ea_cons ev_c (ea_nil)))) fun H1 e1 => ⟨p, b2, _, rfl, hp, hb2, hw.up e1⟩)) mk_nil) (by decide) hW fun xs H5 e5 B5 hL5 hx5 hl5 => ?_
  refine q_put (K := K) B5 rfl hn4 hL5 hx5 hl5 (mk_cons hW (fun f0 c0 dfl H1 hd l y7 => work_D (fr := ["_law_one", "_law_far"]) (js := [2, 6]) (y := "_law_g") ["_law_g", "_law_one", "_law_far"] hd l (sc := defScope s_law) rfl (by decide +kernel) rfl (by decide +kernel) (fun _ _ _ _ _ => ⟨_, rfl, rfl⟩) (fun _ A outer s H g E hr2 => pe_callX x_partner3 hr2 (by decide) (L2N.passes_call (L2N.takes_of rfl rfl rfl rfl) fun _ _ _ _ h => h) (pa_cons (pv 1) (pa_cons pe_int (pa_cons (pe_ix ix_list (pe_lst (pa_cons (pe_un un_neg pe_int) (pa_cons pe_int (pa_cons (pe_op op_add pe_int (pv 2)) pa_nil)))) (pe_op op_mod (pv 2) pe_int) (fun _ _ => rfl)) pa_nil)))) (fun H E Q v hw => (pick3 144 far).elim fun b3 hb3 => r_call (ea_cons (ev_var rfl) (ea_cons (ev_c (v := .int ((3 : Nat) : Int))) (ea_cons (hb3.2 (K := K) (ev_var rfl)) (ea_nil)))) fun H1 e1 => ⟨p, 3, b3, rfl, hp, by decide, fun z => hb3.1 ⟨z.1, by have := z.2; omega⟩, hw.up e1⟩)) mk_nil) (by decide) hW fun xs H6 e6 B6 hL6 hx6 hl6 => ?_
  refine q_put (K := K) B6 rfl hn4 hL6 hx6 hl6 (mk_cons hW (fun f0 c0 dfl H1 hd l y7 => work_D (fr := ["_law_far"]) (js := [6]) (y := "_law_h") ["_law_h", "_law_far"] hd l (sc := defScope s_law) rfl (by decide +kernel) rfl (by decide +kernel) (fun _ _ _ _ _ => ⟨_, rfl, rfl⟩) (fun _ A outer s H g E hr2 => pe_callX x_shows2 hr2 (by decide) (L2N.passes_call (L2N.takes_of rfl rfl rfl rfl) fun _ _ _ _ h => h) (pa_cons pe_int (pa_cons (pe_ix ix_list (pe_lst (pa_cons (pe_un un_neg pe_int) (pa_cons pe_int (pa_cons (pe_op op_add pe_int (pv 1)) pa_nil)))) (pe_op op_mod (pv 1) pe_int) (fun _ _ => rfl)) (pa_cons (pe_lst pa_nil) pa_nil)))) (fun H E Q v hw => (pick3 6 far).elim fun b3 hb3 => hb3.2 (K := K) (ev_var rfl) H (Ex.refl H) _ fun H1 e1 => ⟨Nat.zero_le _, fun pz hpz => ⟨5, b3, _, rfl, by decide, fun z => hb3.1 ⟨z.1, by have := z.2; omega⟩, hw.up (e1.trans (Ex.new hpz))⟩⟩)) mk_nil) (by decide) hW fun xs H7 e7 B7 hL7 hx7 hl7 => ?_
  refine q_put (K := K) B7 rfl hn4 hL7 hx7 hl7 (mk_cons hW (fun f0 c0 dfl H1 hd l y7 => work_D (fr := ["_law_other", "_law_one", "_law_beat"]) (js := [3, 2, 8]) (y := "_law_i") ["_law_i", "_law_other", "_law_one", "_law_beat"] hd l (sc := defScope s_law) rfl (by decide +kernel) rfl (by decide +kernel) (fun _ _ _ _ _ => ⟨_, rfl, rfl⟩) (fun _ A outer s H g E hr2 => pe_callX x_fm4 hr2 (by decide) (L2N.passes_call (L2N.takes_of rfl rfl rfl rfl) fun _ _ _ _ h => h) (pa_cons (pv 1) (pa_cons pe_int (pa_cons (pv 2) (pa_cons (pv 3) (pa_cons pe_bl pa_nil)))))) (fun H E Q v hw => r_call (ea_cons (ev_var rfl) (ea_cons (ev_c (v := .int ((0 : Nat) : Int))) (ea_cons (ev_var rfl) (ea_cons (ev_var rfl) (ea_cons ev_c (ea_nil)))))) fun H1 e1 => ⟨q, 0, p, b, _, rfl, hq, hq.lo, hp, hb, hw.up e1⟩)) mk_nil) (by decide) hW fun xs H8 e8 B8 hL8 hx8 hl8 => ?_
  refine q_cut (M := fun σ H5 => ∃ y7, σ = [some (.ref a), some (.ref D), some (.str (txt p)), some (.str (txt q)), some (.str x), some (.int (n : Nat)), some (.int (far : Nat)), y7, some (.int b), some (.int b2), none, none, none, none] ∧ Basis D (He.cT K ("law", none)).2 ((lawX P w K mg base (He.ga K "law") (.ref (He.codeOf K ("law", none))) A outer s H E).env.qual ++ "<lambda>") H5) ?_ ?_
  · exact s_when (b := false) (et_test (ev_works (K := K) (r := .num) rfl hL8 (by omega) (fun _ => rfl) (fun _ => rfl) (fun _ _ => ev_c) (fun _ _ => ev_c) fun v hv => hx8 v hv _)) (fun hb => nomatch hb) (fun _ H9 e9 => ⟨_, rfl, B8.up e9⟩)
  clear hW e4 B4 hn4 hL4 hx4 hl4 e5 B5 hL5 hx5 hl5 e6 B6 hL6 hx6 hl6 e7 B7 hL7 hx7 hl7 e8 B8 hL8 hx8 hl8
  rintro σ' H' ⟨y7, rfl, B0⟩
  refine r_qasg ?_
  show tCall spOff [] E0 _ _ _ _
  refine r_off (m := 5) B0.dd (by decide) (ea_cons (ev_var rfl) (ea_cons ev_c ea_nil)) fun r1 H1 hr1 _ d1 => ⟨by show 2 ≤ sizeLine; decide, fun pl hpl => ?_⟩
  have hpD : pl ≠ D := d1.ne hpl
  refine r_cb1 (r_opc (r_off (m := 4) (d1.up (Ex.new hpl)) (by decide) (ea_cons (ev_var rfl) (ea_cons ev_c ea_nil)) fun r2 H2 hr2 e2 d2 => ⟨rfl, .inr ⟨_, rfl, ?_⟩⟩))
  have key : ∀ c : Bool, ∃ m : Nat, m ≤ 9 ∧ atI [V.int (r1 : Nat), .int 9] (if c = true then 1 else 0) = some (.int (m : Nat)) := fun c => by
    cases c with
    | false => exact ⟨r1, by omega, rfl⟩
    | true => exact ⟨9, by omega, rfl⟩
  obtain ⟨m, hm9, hat⟩ := key (decide (V.int (r2 : Nat) = V.int 0))
  refine ⟨pl, _, _, _, rfl, rfl, sq_of (e2 _ _ hpD upd_same), hat, ?_⟩
  refine ⟨_, rfl, by omega, by omega, fun Dl hDl => ?_⟩
  have hDD : Dl ≠ D := d2.ne hDl
  have hG : off_ H' D Dl = none := fresh_back d2.ex hDl
  refine lc_range (lo := 0) (n := ((m : Nat) : Int).toNat) (fun i H3 => ∃ ps : List (List Bool), ps.length = i ∧ (∀ p ∈ ps, Pat 6 p) ∧ DD D (off_ H' D) H3 ∧ H3 Dl = some (.lst (ps.map fun p => V.str (txt p)))) ⟨[], rfl, (fun p z => nomatch z), d2.up (Ex.new hDl), upd_same⟩ (fun i H3 hi pr => ?_) (fun H3 pr => ?_)
  · obtain ⟨ps, hps, hpp, d3, hl3⟩ := pr
    refine ⟨rfl, r_yes ?_⟩
    refine r_pattern (m := 6) d3.all.1 (by decide) (ea_cons (ev_var rfl) (ea_cons ev_c ea_nil)) fun p4 H4 hp4 d4 => ?_
    refine ⟨_, d4.ex _ _ (off_in hDD hl3), by rw [List.length_map]; exact small1000 (by omega), ps ++ [p4], by simp [hps], fun y hy => ?_, (d4.weaken d3.all.2 d3.no).set hG hDD, by rw [upd_same, List.map_append]; rfl⟩
    rcases List.mem_append.mp hy with hy | hy
    · exact hpp y hy
    · rw [List.mem_singleton.mp hy]
      exact hp4
  obtain ⟨ps, hps, hpp, d3, hl3⟩ := pr
  have hps9 : ps.length ≤ 9 := by omega
  refine r_qasg (r_off (m := (ps.map fun p => V.str (txt p)).length + 1) d3 (by rw [List.length_map]; omega) (ea_cons (ev_var rfl) (ea_cons (ev_addN (b := 1) (ev_len (K := K) (ev_var rfl) (sq_of hl3)) ev_c) ea_nil)) fun place H4 hpl4 e4 d4 => ?_)
  rw [List.length_map] at hpl4
  have hl4 := e4 _ _ hDD hl3
  refine q_cut (M := fun σ H5 => ∃ RL zs, σ = [some (.ref a), some (.ref D), some (.str (txt p)), some (.str (txt q)), some (.str x), some (.int (n : Nat)), some (.int (far : Nat)), y7, some (.int b), some (.int b2), some (.ref RL), some (.int (place : Nat)), none, none] ∧ Basis D (He.cT K ("law", none)).2 ((lawX P w K mg base (He.ga K "law") (.ref (He.codeOf K ("law", none))) A outer s H E).env.qual ++ "<lambda>") H5 ∧ H5 RL = some (.lst (List.map V.str zs)) ∧ (zs.length ≤ 10 ∧ (∀ z ∈ zs, z.length ≤ 1000) ∧ (∀ i z, i < place → zs[i]? = some z → fault z.cps.toList = none) ∧ zs[place]? = some x)) ?_ ?_
  · have cutL : ∀ (vs : List V) (i j : Option Int), (cutV vs i j).length ≤ vs.length := fun vs i j => by
      unfold cutV
      rw [List.length_take, List.length_drop]
      omega
    have c1 := cutL (ps.map fun p => V.str (txt p)) none (some (place : Nat))
    have c2 := cutL (ps.map fun p => V.str (txt p)) (some (place : Nat)) none
    rw [List.length_map] at c1 c2
    have eA := el_cat (el_cat (el_sl (K := K) (te := tVar 10) (tl := tNoPart) (th := tPart (tVar 11)) (hi := some (place : Nat)) (σ := [some (.ref a), some (.ref D), some (.str (txt p)), some (.str (txt q)), some (.str x), some (.int (n : Nat)), some (.int (far : Nat)), y7, some (.int b), some (.int b2), some (.ref Dl), some (.int (place : Nat)), none, none]) (H := H4) (ev_var rfl) eo_none (eo_some (ev_var rfl)) (sq_of hl4)) (el_lst (ea_cons (ev_var (i := 4) rfl) ea_nil) (by show 1 ≤ 100000; decide)) (by show _ + 1 ≤ _; omega)) (el_sl (K := K) (te := tVar 10) (tl := tPart (tVar 11)) (th := tNoPart) (lo := some (place : Nat)) (ev_var rfl) (eo_some (ev_var rfl)) eo_none (sq_of hl4)) (by rw [List.length_append]; show _ + 1 + _ ≤ _; omega)
    refine r_asg (r_slc (r_op2 ?_))
    refine eA H4 (Ex.refl H4) _ fun l1 H5 hl1 e5 h5 => ?_
    refine r_op2 (el_lst (ea_cons ev_c ea_nil) (by show 1 ≤ 100000; decide) H5 (Ex.refl H5) _ fun l2 H6 hl2 e6 h6 => ?_)
    have d6 := d4.up (e5.trans e6)
    have n1 : l1 ≠ D := d4.ne hl1
    have n2 : l2 ≠ D := (d4.up e5).ne hl2
    refine r_off (m := 2) d6 (by decide) (ea_cons (ev_var rfl) (ea_cons ev_c ea_nil)) fun r3 H7 hr3 e7 d7 => ?_
    refine ⟨l2, (r3 : Nat), [.str ""], rfl, rfl, e7 _ _ n2 h6, by omega, by omega, by show 1 * _ ≤ sizeLine; exact szl (by omega), fun l3 hl3' => ?_⟩
    have x3 := Ex.new (o := .lst (List.replicate ((r3 : Nat) : Int).toNat [V.str ""]).flatten) hl3'
    have hfl : (List.replicate ((r3 : Nat) : Int).toNat [V.str ""]).flatten.length ≤ 1 := by
      rw [List.length_flatten, List.map_replicate, List.sum_replicate_nat]
      show ((r3 : Nat) : Int).toNat * 1 ≤ 1
      omega
    refine ⟨l1, l3, _, _, rfl, rfl, x3 _ _ (e7 _ _ n1 (e6 _ _ h5)), upd_same, szl (by rw [List.length_append, List.length_append]; show _ + 1 + _ + _ ≤ _; omega), fun l4 hl4' => ?_⟩
    have x4 := Ex.new (o := .lst (((cutV (ps.map fun p => V.str (txt p)) none (some (place : Nat)) ++ [V.str x]) ++ cutV (ps.map fun p => V.str (txt p)) (some (place : Nat)) none) ++ (List.replicate ((r3 : Nat) : Int).toNat [V.str ""]).flatten)) hl4'
    refine ⟨10, rfl, l4, _, rfl, sq_of upd_same, fun l5 hl5 => ?_⟩
    obtain ⟨zs, hz1, hz2⟩ := rows_ok (ps := ps) (x := x) (place := place) (r := ((r3 : Nat) : Int).toNat) (by omega) hps9 hxl hpp
    exact ⟨l5, zs, rfl, B0.after (((d7.up x3).up x4).up (Ex.new hl5)), by rw [upd_same]; exact congrArg (fun z => some (HO.lst z)) hz1, hz2⟩
  clear hl4 d4 e4 d3 hl3 hDD hG hat key d2 d1 B0 hpD
  rintro σ' H' ⟨RL, zs, rfl, B0, hRL, hz10, hzl, hzg, hzx⟩
  refine r_qif (r_refN ?_)
  refine r_lamC B0 fun f0 c0 dfl H1 e1 B1 hd l => ⟨.int (place : Nat), rfl, .non place, .ref f0, rfl, ?_, fun H2 e2 => ⟨true, rfl, iteF ?_⟩⟩
  · exact work_P (Pre := fun H2 => H2 RL = some (.lst (List.map V.str zs))) (fr := ["_law_rows"]) (js := [10]) ["_law_rows"] hd (extN_lst e1 hRL) l (sc := defScope s_law) rfl (by decide +kernel) rfl (by decide +kernel) (fun _ _ _ => rfl) (fun _ A outer s H g E hr2 => pe_callX x_front hr2 (by decide) (L2N.passes_call (L2N.takes_of rfl rfl rfl rfl) fun _ _ _ _ h => h) (pa_cons (pv 0) pa_nil)) (fun H E Q hpre hw => r_call (ea_cons (ev_var rfl) ea_nil) fun H1 e1 => ⟨RL, zs, place, n, x, rfl, sq_of (e1 _ _ hpre), hzl, hzg, hzx, hxf, hw.up e1⟩)
  have hone := ones_some hp
  refine s_ret (v := .bl true) (ev_is (ev_andV (a := true) (b := true) (ev_is (ev_op (ev_call (ea_cons (ev_var rfl) ea_nil) fun H1 e Q q E => ⟨p, rfl, hp, q⟩) ev_c rv_I0) ?_) fun _ => ev_andV (a := true) (b := true) ?_ fun _ => ?_) rfl) fun H3 _ => k H3
  · show V.bl (decide _) = _
    rw [decide_eq_true (by omega)]
  · exact fun H3 e3 Q kq => r_call (ea_cons (ev_var rfl) (ea_cons (ev_var rfl) (ea_cons ev_c ea_nil))) fun H4 e4 => ⟨p, q, true, rfl, hp, hq, fun v H5 e5 iv => by
      obtain ⟨t, rfl, ht⟩ := iv
      exact ⟨.ref t, .ty "tuple", .type "tuple", .type "tuple", true, rfl, .ty "tuple", ty_t ht, kit_ty is_tup, kq H5 (e4.trans e5)⟩⟩
  · intro H3 e3 Q kq
    refine r_opC1 ?_
    refine el_lst (ta := tCons (tVar 2) tNil) (vs := [.str (txt p)]) (ea_cons (ev_var rfl) ea_nil) (by show 1 ≤ 100000; decide) H3 e3 _ fun l1 H4 hl1 e4 h4 => ?_
    refine ⟨l1, [p], rfl, sq_of h4, (fun y hy => by rw [List.mem_singleton.mp hy]; exact hp), by show 1 ≤ 1000; decide, fun l2 H5 hl2 e5 h5 => ?_⟩
    refine ⟨Nat.zero_le _, fun l3 hl3 => ⟨by show 1 ≤ sizeLine; decide, fun l4 hl4 => ⟨by show 2 ≤ sizeLine; decide, fun l5 hl5 => ?_⟩⟩⟩
    have x3 := Ex.new (o := .lst []) hl3
    have x4 := Ex.new (o := .lst [.int 0]) hl4
    have x5 := Ex.new (o := .lst [.ref l3, .ref l4]) hl5
    have h3 := (x4.trans x5) _ _ (upd_same (H := H5) (a := l3) (o := .lst []))
    have h4' := x5 _ _ (upd_same (H := upd H5 l3 (.lst [])) (a := l4) (o := .lst [.int 0]))
    have hall : Dp K (upd (upd (upd H5 l3 (.lst [])) l4 (.lst [.int 0])) l5 (.lst [.ref l3, .ref l4])) (.ref l5) (.list [.list [], .list [.int 0]]) := .lst (sq_of upd_same) (.cons (.lst (sq_of h3) .nil) (.cons (.lst (sq_of h4') (.cons (.int 0) .nil)) .nil))
    have h5' := ((x3.trans x4).trans x5) _ _ h5
    have ex := (e4.trans e5).trans ((x3.trans x4).trans x5)
    rcases front_one p with z | z
    · refine ⟨.list [], _, .lst (sq_of (h5'.trans (congrArg (fun z => some (HO.lst z)) z))) .nil, hall, by decide +kernel, by decide +kernel, ?_⟩
      have e : ([PyData.list [], .list [.int 0]].any fun z => PyData.eqv z (.list [])) = true := by decide +kernel
      rw [e]
      exact kq _ ex
    · refine ⟨.list [.int 0], _, .lst (sq_of (h5'.trans (congrArg (fun z => some (HO.lst z)) z))) (.cons (.int 0) .nil), hall, by decide +kernel, by decide +kernel, ?_⟩
      have e : ([PyData.list [], .list [.int 0]].any fun z => PyData.eqv z (.list [.int 0])) = true := by decide +kernel
      rw [e]
      exact kq _ ex
end
end Bm
namespace Bm
open PySem PySem.Spec PyProof.Rows L2 Evl
/-! ### the head -/
def dd (x : PySem.Str) (st : Stmt) : He.DefD := ⟨(x, none), x, x, defArgs st, defBody st, defScope st, [], []⟩
def dm (x q : PySem.Str) (st : Stmt) : He.DefD := ⟨(x, some "__init__"), "__init__", q, defArgs st, defBody st, defScope st, [], []⟩
def fn : List He.DefD := [dd "fault_of" s_fault_of, dd "need_pattern" s_need_pattern, dd "need_phase" s_need_phase, dd "need_beats" s_need_beats, dd "awake_of" s_awake_of, dd "awake" s_awake, dd "turned" s_turned, dd "least_turn" s_least_turn, dd "is_met" s_is_met, dd "first_of" s_first_of, dd "first_meet" s_first_meet, dd "worst_of" s_worst_of, dd "worst" s_worst, dd "partner" s_partner, dd "fewest" s_fewest, dd "paper" s_paper, dd "shows" s_shows, dd "is_better" s_is_better, dd "front" s_front, dd "_law_dice" s_law_dice, dd "_law_off" s_law_off, dd "_law_pattern" s_law_pattern, dd "_law_alike" s_law_alike, dd "_law_refused" s_law_refused, dd "_law_bad" s_law_bad, dd "law" s_law, dm "BadPattern" "BadPattern.__init__" s_iP, dm "NoPattern" "NoPattern.__init__" s_iO]
def fa : List He.Fa := [(He.Fa.glo "fault_of" : He.Fa), (He.Fa.glo "need_pattern" : He.Fa), (He.Fa.glo "need_phase" : He.Fa), (He.Fa.glo "need_beats" : He.Fa), (He.Fa.glo "awake_of" : He.Fa), (He.Fa.glo "awake" : He.Fa), (He.Fa.glo "turned" : He.Fa), (He.Fa.glo "least_turn" : He.Fa), (He.Fa.glo "is_met" : He.Fa), (He.Fa.glo "first_of" : He.Fa), (He.Fa.glo "first_meet" : He.Fa), (He.Fa.glo "worst_of" : He.Fa), (He.Fa.glo "worst" : He.Fa), (He.Fa.glo "partner" : He.Fa), (He.Fa.glo "fewest" : He.Fa), (He.Fa.glo "paper" : He.Fa), (He.Fa.glo "shows" : He.Fa), (He.Fa.glo "is_better" : He.Fa), (He.Fa.glo "front" : He.Fa), (He.Fa.glo "_law_dice" : He.Fa), (He.Fa.glo "_law_off" : He.Fa), (He.Fa.glo "_law_pattern" : He.Fa), (He.Fa.glo "_law_alike" : He.Fa), (He.Fa.glo "_law_refused" : He.Fa), (He.Fa.glo "_law_bad" : He.Fa), (He.Fa.glo "law" : He.Fa), (He.Fa.glo "MeetError" : He.Fa), (He.Fa.glo "BadPattern" : He.Fa), (He.Fa.glo "BadNumber" : He.Fa), (He.Fa.glo "NoPattern" : He.Fa), (He.Fa.free "len" : He.Fa), (He.Fa.free "range" : He.Fa), (He.Fa.free "int" : He.Fa), (He.Fa.free "abs" : He.Fa), (He.Fa.free "max" : He.Fa), (He.Fa.free "min" : He.Fa), (He.Fa.free "sorted" : He.Fa), (He.Fa.free "isinstance" : He.Fa), (He.Fa.free "bool" : He.Fa), (He.Fa.free "str" : He.Fa), (He.Fa.free "tuple" : He.Fa), (He.Fa.free "list" : He.Fa), (He.Fa.free "all" : He.Fa), (He.Fa.free "enumerate" : He.Fa), (He.Fa.free "set" : He.Fa), (He.Fa.free "ValueError" : He.Fa), (He.Fa.int "MOST_BEATS" 12 : He.Fa), (He.Fa.str "AWAKE" "1" : He.Fa), (He.Fa.str "ASLEEP" "0" : He.Fa), (He.Fa.int "LATER" 1 : He.Fa), (He.Fa.int "MOST_WITHIN" 143 : He.Fa)]
abbrev R : PySem.W.OpenRow := PySem.W.OpenLaw.row PySem.Challenge.rw_beaconmeet_k01_patterns_refused
abbrev hk : PySem.W.Hook := hookL 4 fa fn
def ob (s : PySem.W.SharedT) : AlL := obsL 4 fa fn (HandSHeadRun.getT s)
theorem ob_eq (s : PySem.W.SharedT) : ob s = hk.obs s.abs := obsL_eq (HandSHeadRun.getT_eq s)
def loose : List PySem.Str := [("MeetError" : PySem.Str), ("BadPattern" : PySem.Str), ("BadNumber" : PySem.Str), ("NoPattern" : PySem.Str), ("MOST_BEATS" : PySem.Str), ("AWAKE" : PySem.Str), ("ASLEEP" : PySem.Str), ("fault_of" : PySem.Str), ("need_pattern" : PySem.Str), ("need_beats" : PySem.Str), ("need_phase" : PySem.Str), ("awake_of" : PySem.Str), ("awake" : PySem.Str), ("turned_by" : PySem.Str), ("turned" : PySem.Str), ("least_turn" : PySem.Str), ("all_of" : PySem.Str), ("LATER" : PySem.Str), ("is_met" : PySem.Str), ("first_of" : PySem.Str), ("first_meet" : PySem.Str), ("worst_of" : PySem.Str), ("worst" : PySem.Str), ("is_met_in" : PySem.Str), ("MOST_WITHIN" : PySem.Str), ("lacking" : PySem.Str), ("fewest" : PySem.Str), ("beginning" : PySem.Str), ("paper" : PySem.Str), ("shows" : PySem.Str), ("partner" : PySem.Str), ("front" : PySem.Str), ("is_better" : PySem.Str), ("_law_dice" : PySem.Str), ("_law_off" : PySem.Str), ("_law_alike" : PySem.Str), ("_law_refused" : PySem.Str), ("_law_pattern" : PySem.Str), ("_law_bad" : PySem.Str)]
theorem run (w : World) : HandSHeadRun.RunEq R (PySem.W.view R.prog [44]) hk ob 3000 loose w := by
  intro os
  kernel_rfl
theorem facts {P : Program} {w : World} {K : PySem.W.Frag} {h : Heap} {mg : PySem.Str → Option Value} {f : Addr} (X : K.In h) (G : h.Ns mainGlobals mg) (hfa : mg ("law" : PySem.Str) = some (.ref f)) (c0 : SaysL fa fn h K) :
    ∃ fd : FuncData, (∀ (s : Shared) (v : Value), BindsTo s fd ⟨[v], []⟩ [("_law_script", v)]) ∧ ∀ base : Heap, K.In base → base.Ns mainGlobals mg → (∀ p ∈ [He.cT K ("law", none)], LamX.TabB base mg p.1 p.2) → FnOk P w K mg base CX0 7 f fd ["_law_script"] (spLaw K) := by
  have c := c0.d
  have D_fault_of : Def1 K mg "fault_of" s_fault_of := by
    obtain ⟨fd, F⟩ := c.def_ 0 (d := dd "fault_of" s_fault_of) rfl
    exact ⟨_, fd, F, He.glo_ok X G (c.fact 0 (f := .glo "fault_of") rfl)⟩
  have D_need_pattern : Def1 K mg "need_pattern" s_need_pattern := by
    obtain ⟨fd, F⟩ := c.def_ 1 (d := dd "need_pattern" s_need_pattern) rfl
    exact ⟨_, fd, F, He.glo_ok X G (c.fact 1 (f := .glo "need_pattern") rfl)⟩
  have D_need_phase : Def1 K mg "need_phase" s_need_phase := by
    obtain ⟨fd, F⟩ := c.def_ 2 (d := dd "need_phase" s_need_phase) rfl
    exact ⟨_, fd, F, He.glo_ok X G (c.fact 2 (f := .glo "need_phase") rfl)⟩
  have D_need_beats : Def1 K mg "need_beats" s_need_beats := by
    obtain ⟨fd, F⟩ := c.def_ 3 (d := dd "need_beats" s_need_beats) rfl
    exact ⟨_, fd, F, He.glo_ok X G (c.fact 3 (f := .glo "need_beats") rfl)⟩
  have D_awake_of : Def1 K mg "awake_of" s_awake_of := by
    obtain ⟨fd, F⟩ := c.def_ 4 (d := dd "awake_of" s_awake_of) rfl
    exact ⟨_, fd, F, He.glo_ok X G (c.fact 4 (f := .glo "awake_of") rfl)⟩
  have D_awake : Def1 K mg "awake" s_awake := by
    obtain ⟨fd, F⟩ := c.def_ 5 (d := dd "awake" s_awake) rfl
    exact ⟨_, fd, F, He.glo_ok X G (c.fact 5 (f := .glo "awake") rfl)⟩
  have D_turned : Def1 K mg "turned" s_turned := by
    obtain ⟨fd, F⟩ := c.def_ 6 (d := dd "turned" s_turned) rfl
    exact ⟨_, fd, F, He.glo_ok X G (c.fact 6 (f := .glo "turned") rfl)⟩
  have D_least_turn : Def1 K mg "least_turn" s_least_turn := by
    obtain ⟨fd, F⟩ := c.def_ 7 (d := dd "least_turn" s_least_turn) rfl
    exact ⟨_, fd, F, He.glo_ok X G (c.fact 7 (f := .glo "least_turn") rfl)⟩
  have D_is_met : Def1 K mg "is_met" s_is_met := by
    obtain ⟨fd, F⟩ := c.def_ 8 (d := dd "is_met" s_is_met) rfl
    exact ⟨_, fd, F, He.glo_ok X G (c.fact 8 (f := .glo "is_met") rfl)⟩
  have D_first_of : Def1 K mg "first_of" s_first_of := by
    obtain ⟨fd, F⟩ := c.def_ 9 (d := dd "first_of" s_first_of) rfl
    exact ⟨_, fd, F, He.glo_ok X G (c.fact 9 (f := .glo "first_of") rfl)⟩
  have D_first_meet : Def1 K mg "first_meet" s_first_meet := by
    obtain ⟨fd, F⟩ := c.def_ 10 (d := dd "first_meet" s_first_meet) rfl
    exact ⟨_, fd, F, He.glo_ok X G (c.fact 10 (f := .glo "first_meet") rfl)⟩
  have D_worst_of : Def1 K mg "worst_of" s_worst_of := by
    obtain ⟨fd, F⟩ := c.def_ 11 (d := dd "worst_of" s_worst_of) rfl
    exact ⟨_, fd, F, He.glo_ok X G (c.fact 11 (f := .glo "worst_of") rfl)⟩
  have D_worst : Def1 K mg "worst" s_worst := by
    obtain ⟨fd, F⟩ := c.def_ 12 (d := dd "worst" s_worst) rfl
    exact ⟨_, fd, F, He.glo_ok X G (c.fact 12 (f := .glo "worst") rfl)⟩
  have D_partner : Def1 K mg "partner" s_partner := by
    obtain ⟨fd, F⟩ := c.def_ 13 (d := dd "partner" s_partner) rfl
    exact ⟨_, fd, F, He.glo_ok X G (c.fact 13 (f := .glo "partner") rfl)⟩
  have D_fewest : Def1 K mg "fewest" s_fewest := by
    obtain ⟨fd, F⟩ := c.def_ 14 (d := dd "fewest" s_fewest) rfl
    exact ⟨_, fd, F, He.glo_ok X G (c.fact 14 (f := .glo "fewest") rfl)⟩
  have D_paper : Def1 K mg "paper" s_paper := by
    obtain ⟨fd, F⟩ := c.def_ 15 (d := dd "paper" s_paper) rfl
    exact ⟨_, fd, F, He.glo_ok X G (c.fact 15 (f := .glo "paper") rfl)⟩
  have D_shows : Def1 K mg "shows" s_shows := by
    obtain ⟨fd, F⟩ := c.def_ 16 (d := dd "shows" s_shows) rfl
    exact ⟨_, fd, F, He.glo_ok X G (c.fact 16 (f := .glo "shows") rfl)⟩
  have D_is_better : Def1 K mg "is_better" s_is_better := by
    obtain ⟨fd, F⟩ := c.def_ 17 (d := dd "is_better" s_is_better) rfl
    exact ⟨_, fd, F, He.glo_ok X G (c.fact 17 (f := .glo "is_better") rfl)⟩
  have D_front : Def1 K mg "front" s_front := by
    obtain ⟨fd, F⟩ := c.def_ 18 (d := dd "front" s_front) rfl
    exact ⟨_, fd, F, He.glo_ok X G (c.fact 18 (f := .glo "front") rfl)⟩
  have D_law_dice : Def1 K mg "_law_dice" s_law_dice := by
    obtain ⟨fd, F⟩ := c.def_ 19 (d := dd "_law_dice" s_law_dice) rfl
    exact ⟨_, fd, F, He.glo_ok X G (c.fact 19 (f := .glo "_law_dice") rfl)⟩
  have D_law_off : Def1 K mg "_law_off" s_law_off := by
    obtain ⟨fd, F⟩ := c.def_ 20 (d := dd "_law_off" s_law_off) rfl
    exact ⟨_, fd, F, He.glo_ok X G (c.fact 20 (f := .glo "_law_off") rfl)⟩
  have D_law_pattern : Def1 K mg "_law_pattern" s_law_pattern := by
    obtain ⟨fd, F⟩ := c.def_ 21 (d := dd "_law_pattern" s_law_pattern) rfl
    exact ⟨_, fd, F, He.glo_ok X G (c.fact 21 (f := .glo "_law_pattern") rfl)⟩
  have D_law_alike : Def1 K mg "_law_alike" s_law_alike := by
    obtain ⟨fd, F⟩ := c.def_ 22 (d := dd "_law_alike" s_law_alike) rfl
    exact ⟨_, fd, F, He.glo_ok X G (c.fact 22 (f := .glo "_law_alike") rfl)⟩
  have D_law_refused : Def1 K mg "_law_refused" s_law_refused := by
    obtain ⟨fd, F⟩ := c.def_ 23 (d := dd "_law_refused" s_law_refused) rfl
    exact ⟨_, fd, F, He.glo_ok X G (c.fact 23 (f := .glo "_law_refused") rfl)⟩
  have D_law_bad : Def1 K mg "_law_bad" s_law_bad := by
    obtain ⟨fd, F⟩ := c.def_ 24 (d := dd "_law_bad" s_law_bad) rfl
    exact ⟨_, fd, F, He.glo_ok X G (c.fact 24 (f := .glo "_law_bad") rfl)⟩
  have D_law : Def1 K mg "law" s_law := by
    obtain ⟨fd, F⟩ := c.def_ 25 (d := dd "law" s_law) rfl
    exact ⟨_, fd, F, He.glo_ok X G (c.fact 25 (f := .glo "law") rfl)⟩
  have B : Bl mg := ⟨He.free_ok X G (c.fact 30 (f := .free "len") rfl), He.free_ok X G (c.fact 31 (f := .free "range") rfl), He.free_ok X G (c.fact 32 (f := .free "int") rfl), He.free_ok X G (c.fact 33 (f := .free "abs") rfl), He.free_ok X G (c.fact 34 (f := .free "max") rfl), He.free_ok X G (c.fact 35 (f := .free "min") rfl), He.free_ok X G (c.fact 36 (f := .free "sorted") rfl), He.free_ok X G (c.fact 37 (f := .free "isinstance") rfl), He.free_ok X G (c.fact 38 (f := .free "bool") rfl), He.free_ok X G (c.fact 39 (f := .free "str") rfl), He.free_ok X G (c.fact 40 (f := .free "tuple") rfl), He.free_ok X G (c.fact 41 (f := .free "list") rfl), He.free_ok X G (c.fact 42 (f := .free "all") rfl), He.free_ok X G (c.fact 43 (f := .free "enumerate") rfl), He.free_ok X G (c.fact 44 (f := .free "set") rfl)⟩
  have T : Errs K mg := errsB_ok c0.e (He.glo_ok X G (c.fact 26 (f := .glo "MeetError") rfl)) (He.glo_ok X G (c.fact 27 (f := .glo "BadPattern") rfl)) (He.glo_ok X G (c.fact 28 (f := .glo "BadNumber") rfl)) (He.glo_ok X G (c.fact 29 (f := .glo "NoPattern") rfl)) (He.free_ok X G (c.fact 45 (f := .free "ValueError") rfl))
  have g_MOST_BEATS := He.int_ok X G (c.fact 46 (f := .int "MOST_BEATS" 12) rfl)
  have g_AWAKE := He.str_ok X G (c.fact 47 (f := .str "AWAKE" "1") rfl)
  have g_ASLEEP := He.str_ok X G (c.fact 48 (f := .str "ASLEEP" "0") rfl)
  have g_LATER := He.int_ok X G (c.fact 49 (f := .int "LATER" 1) rfl)
  have g_MOST_WITHIN := He.int_ok X G (c.fact 50 (f := .int "MOST_WITHIN" 143) rfl)
  have I_P : Ini K (cPt K) "BadPattern.__init__" s_iP := ⟨c.def_ 26 (d := dm "BadPattern" "BadPattern.__init__" s_iP) rfl⟩
  have I_O : Ini K (cNo K) "NoPattern.__init__" s_iO := ⟨c.def_ 27 (d := dm "NoPattern" "NoPattern.__init__" s_iO) rfl⟩
  obtain ⟨fd, F⟩ := c.def_ 25 (d := dd "law" s_law) rfl
  have b := FunD.bindsA (ps := ["_law_script"]) F fun _ _ _ _ _ _ us hl => match us, hl with | [_], _ => rfl
  have lk : ∃ oc od osl, K.lookup (He.fAd K (dd "law" s_law).at_) = some ⟨oc, od, .func fd, osl⟩ := by
    obtain ⟨oc, od, _, _, _, _, _, _, _, osl, _, lk, _⟩ := F.ex
    exact ⟨oc, od, osl, lk⟩
  have hga := He.glo_ok X G (c.fact 25 (f := .glo "law") rfl)
  have e := hfa.symm.trans hga
  cases e
  refine ⟨fd, fun s v => b s [v] rfl, fun base _ _ tb => ?_⟩
  have c_fault_of := ok_fault_of (P := P) (w := w) (base := base) D_fault_of B g_MOST_BEATS g_AWAKE g_ASLEEP
  have c_need_pattern := ok_need_pattern D_need_pattern c_fault_of
  have c_need_phase := ok_need_phase (P := P) (w := w) (base := base) D_need_phase B
  have c_need_beats := ok_need_beats (P := P) (w := w) (base := base) D_need_beats B g_MOST_BEATS
  have c_awake_of := ok_awake_of (P := P) (w := w) (base := base) D_awake_of B g_AWAKE
  have c_awake := ok_awake D_awake B c_need_pattern c_awake_of
  have c_is_met := ok_is_met (P := P) (w := w) (base := base) D_is_met B g_AWAKE g_LATER
  have c_first_of := ok_first_of D_first_of B c_is_met
  have c_worst_of := ok_worst_of D_worst_of B c_first_of
  have c_worst := ok_worst D_worst c_need_pattern c_worst_of
  have c_is_better := ok_is_better (P := P) (w := w) (base := base) D_is_better
  have c_front := ok_front D_front B c_fault_of c_awake_of c_worst_of c_is_better
  have c_law_dice := ok_law_dice (P := P) (w := w) (base := base) D_law_dice B
  have c_law_off := ok_law_off (P := P) (w := w) (base := base) D_law_off B
  have c_law_pattern := ok_law_pattern D_law_pattern B c_law_off
  have c_law_bad := ok_law_bad D_law_bad B c_law_off
  have iP := ok_iP (P := P) (w := w) (base := base) I_P T
  have iO := ok_iO (P := P) (w := w) (base := base) I_O T
  have x_np := ok_X_np D_need_pattern B T iP c_fault_of
  have x_nb := ok_X_nb (P := P) (w := w) (base := base) D_need_beats B T g_MOST_BEATS
  have x_nph := ok_X_nph (P := P) (w := w) (base := base) D_need_phase B T 
  have x_awake := ok_X_awake D_awake B T x_np
  have x_turned1 := ok_X_turned1 D_turned B T x_np
  have x_least := ok_X_least D_least_turn B T x_np
  have x_worst1 := ok_X_worst1 D_worst B T x_np
  have x_fm1 := ok_X_fm1 D_first_meet B T x_np
  have x_partner1 := ok_X_partner1 D_partner B T x_np
  have x_fewest := ok_X_fewest D_fewest B T x_nb
  have x_shows1 := ok_X_shows1 D_shows B T x_nb
  have x_paper := ok_X_paper D_paper B T x_fewest
  have x_turned2 := ok_X_turned2 D_turned B T c_need_pattern x_nph
  have x_worst2 := ok_X_worst2 D_worst B T c_need_pattern x_np
  have x_fm2 := ok_X_fm2 D_first_meet B T c_need_pattern x_nph
  have x_fm3 := ok_X_fm3 D_first_meet B T c_need_pattern c_need_phase x_np
  have x_fm4 := ok_X_fm4 D_first_meet B T c_need_pattern c_need_phase x_nph
  have x_partner2 := ok_X_partner2 D_partner B T c_need_pattern x_nb
  have x_partner3 := ok_X_partner3 D_partner B T c_need_pattern c_need_beats g_MOST_WITHIN
  have x_shows2 := ok_X_shows2 D_shows B T c_need_beats
  have x_front := ok_X_front D_front B T iO c_fault_of
  have h_alike := ok_alikeH (P := P) (w := w) (base := base) D_law_alike B
  have R : Ref P w K mg base := ⟨ok_refused D_law_refused B T h_alike⟩
  have c_law := ok_law D_law B hga (tb _ List.mem_cons_self) R c_law_dice c_law_off c_law_pattern c_law_bad c_awake c_worst c_front x_awake x_turned1 x_least x_worst1 x_fm1 x_worst2 x_fm3 x_partner1 x_turned2 x_fm2 x_fewest x_paper x_shows1 x_partner2 x_partner3 x_shows2 x_fm4 x_front
  exact c_law.at_ hfa lk
end Bm
open PySem PySem.W PySem.Calls PyProof.Rows
set_option maxRecDepth 100000 in
set_option maxHeartbeats 0 in
theorem PySem.Challenge.cw_beaconmeet_k01_patterns_refused_holds : PySem.Challenge.rw_beaconmeet_k01_patterns_refused.Holds := by
  w_on; o_law
  refine HandSHeadRun.head_any (r := OpenLaw.row PySem.Challenge.rw_beaconmeet_k01_patterns_refused) (q := view (OpenLaw.row PySem.Challenge.rw_beaconmeet_k01_patterns_refused).prog [44]) (H := Bm.hk) (ob := Bm.ob) (M := 3000) (loose := Bm.loose) (d := HandSHeadRun.topDef (OpenLaw.row PySem.Challenge.rw_beaconmeet_k01_patterns_refused).prog 44) (kwd := []) Bm.ob_eq
    (by kernel_rfl) (fun s => by kernel_rfl) Bm.run (by kernel_rfl) (by kernel_rfl) (by kernel_rfl) (by rfl) (by first | assumption | decide +kernel) (by decide +kernel) ⟨rfl, rfl, rfl, rfl, rfl, by decide +kernel⟩ ?hw ?hc
  case hw => w_witness2
  case hc =>
    refine LamX.walk_ofTsE (l := PySem.Challenge.rw_beaconmeet_k01_patterns_refused) (n := 63) (k := 7) (x := "_law_script") (CX := fun _ => L2.CX0) rfl (by decide) (by kernel_rfl) ⟨rfl, by decide, by decide⟩ ?F (fun _ _ _ _ _ z => z)
    intro w mg fa h Y G hmg0
    obtain ⟨K, KX, c⟩ := Y
    have hmg : mg ("law" : PySem.Str) = some (.ref fa) := by
      have e : (HandSHeadRun.topDef (OpenLaw.row PySem.Challenge.rw_beaconmeet_k01_patterns_refused).prog 44).name = ("law" : PySem.Str) := by kernel_rfl
      rw [← e]
      exact hmg0
    obtain ⟨fd, hb, hF⟩ := Bm.facts (P := (PySem.Challenge.rw_beaconmeet_k01_patterns_refused).prog) (w := w) KX G hmg c
    have one : ∀ {Z : Addr × Addr → Prop}, Z (He.cT K ("law", none)) → ∀ p ∈ [He.cT K ("law", none)], Z p := fun z p hp => by
      rw [List.mem_singleton.mp hp]
      exact z
    exact ⟨K, KX, fd, [He.cT K ("law", none)], Bm.spLaw K, one (Z := fun p => h.get? p.2 = some { cls := .none, data := .fields #[] }) c.empty, one (Z := fun p => K.lookup p.2 = none) c.out, one (Z := fun p => PySem.W.CodeHd h p.1 p.2) (PySem.W.codeHd_of_K KX c.hd), hb, fun H a ns hl _ hT hS => ⟨a, ns, rfl, hS, hl, hT _ List.mem_cons_self, fun _ => rfl⟩, hF⟩
