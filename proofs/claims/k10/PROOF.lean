import PyProof.Rows.All
import Wide.All
import OpenK.AllK
import Wide.FinOn
import PyProof.EqAt
import PyProof.EqKinds
import PyProof.TupleCall
import PyProof.Draws
import KE.KStateDown
import KE.GoesMore
import HandS.ForMost
import HandS.Evl
import HandS.Walk
import HandS.Defaults
import HandS.IsInst
import HandS.Head0
import HandS.Head1
import HandS.Head2
import HandS.HeadEnd
import HandS.HeadHook1
import HandS.HeadHook2
import KE.DatumOrd
import KE.SortData
import PyProof.Rows.RowBridgeK
import PyProof.Rows.RegReprOcc
import HandS.Strs
import HandS.SetFor
import HandS.Conv
import PySem.Challenge.RW_beaconmeet_k10_asked_again
set_option Elab.async false
set_option linter.all false
set_option maxRecDepth 100000
set_option maxHeartbeats 4000000
namespace Bm
/-! ### patterns as lists of truth values -/
/-- awake in beat i, going round -/
def aw (p : List Bool) (i : Nat) : Bool := p.getD (i % p.length) false
/-- the numbers of the beats awake -/
def ones (p : List Bool) : List Nat := (List.range p.length).filter fun i => p.getD i false
/-- a pattern: one to m beats, one awake at least -/
structure Pat (m : Nat) (p : List Bool) : Prop where
  lo : 1 ≤ p.length
  hi : p.length ≤ m
  has : true ∈ p
def met (p q : List Bool) (l : Bool) (x y : Nat) : Bool := aw q y && (aw p x || (l && aw p (x + 1)))
/-- the first moment -/
def first (p q : List Bool) (l : Bool) (a b : Nat) : Option Nat := (List.range (p.length * q.length)).find? fun m => met p q l (a + m) (b + m)

theorem mem_ones {p : List Bool} {i : Nat} : i ∈ ones p ↔ i < p.length ∧ p.getD i false = true := by
  unfold ones
  rw [List.mem_filter, List.mem_range]
theorem aw_iff {p : List Bool} (h : 0 < p.length) (i : Nat) : aw p i = decide (i % p.length ∈ ones p) := by
  have hl : i % p.length < p.length := Nat.mod_lt _ h
  unfold aw
  cases e : p.getD (i % p.length) false with
  | true => rw [decide_eq_true (mem_ones.mpr ⟨hl, e⟩)]
  | false => rw [decide_eq_false]; intro z; rw [(mem_ones.mp z).2] at e; cases e

/-! ### the first of a range -/
theorem find_range_some {n m : Nat} {f : Nat → Bool} (h : (List.range n).find? f = some m) : m < n ∧ f m = true ∧ ∀ i, i < m → f i = false := by
  rw [List.find?_range_eq_some] at h
  obtain ⟨h1, h2, h3⟩ := h
  refine ⟨List.mem_range.mp h2, h1, fun i hi => ?_⟩
  have := h3 i hi
  simpa using this
theorem find_range_none {n : Nat} {f : Nat → Bool} (h : (List.range n).find? f = none) : ∀ i, i < n → f i = false := by
  intro i hi
  have := List.find?_eq_none.mp h i (List.mem_range.mpr hi)
  simpa using this
theorem find_range_is {n m : Nat} {f : Nat → Bool} (h1 : m < n) (h2 : f m = true) (h3 : ∀ i, i < m → f i = false) : (List.range n).find? f = some m := by
  rw [List.find?_range_eq_some]
  exact ⟨h2, List.mem_range.mpr h1, fun i hi => by simp [h3 i hi]⟩
theorem find_range_no {n : Nat} {f : Nat → Bool} (h : ∀ i, i < n → f i = false) : (List.range n).find? f = none := by
  rw [List.find?_eq_none]
  intro i hi
  simp [h i (List.mem_range.mp hi)]
end Bm
namespace Bm
/-! ### what is no pattern -/
def badAt (c i : Nat) : Bool := decide (12 ≤ i) || !(c == 49 || c == 48)
def fault (cs : List Nat) : Option Nat := match (List.range cs.length).find? fun i => badAt (cs.getD i 0) i with
  | some i => some i
  | none => if 49 ∈ cs then none else some cs.length
end Bm
namespace Bm
/-! ### the latest -/
abbrev Row := Option Nat × Nat × Nat
def rowA (p q : List Bool) (l : Bool) (a k : Nat) : List Row := (List.range k).map fun b => (first p q l a b, a, b)
def upto (p q : List Bool) (l : Bool) (a : Nat) : List Row := (List.range a).flatMap fun a' => rowA p q l a' q.length
def rows (p q : List Bool) (l : Bool) : List Row := upto p q l p.length
def valR (r : Row) : Nat := r.1.getD 0
def stp (best : Option Row) (r : Row) : Option Row := match best with
  | none => some r
  | some b => if valR b < valR r then some r else some b
/-- all meet -/
def allMeet (rs : List Row) : Prop := ∀ r ∈ rs, r.1 ≠ none
def worst (p q : List Bool) (l : Bool) : Row := match (rows p q l).find? (fun r => r.1.isNone) with
  | some r => r
  | none => ((rows p q l).foldl stp none).getD (none, 0, 0)
theorem rowA_succ (p q : List Bool) (l : Bool) (a b : Nat) : rowA p q l a (b + 1) = rowA p q l a b ++ [(first p q l a b, a, b)] := by
  unfold rowA
  rw [List.range_succ, List.map_append]
  rfl
theorem upto_succ (p q : List Bool) (l : Bool) (a : Nat) : upto p q l (a + 1) = upto p q l a ++ rowA p q l a q.length := by
  unfold upto
  rw [List.range_succ, List.flatMap_append]
  simp
theorem upto_pre (p q : List Bool) (l : Bool) {a : Nat} (h : a < p.length) : ∃ s, rows p q l = upto p q l a ++ (rowA p q l a q.length ++ s) := by
  have key : ∀ n, a < n → ∃ s, upto p q l n = upto p q l a ++ (rowA p q l a q.length ++ s) := by
    intro n hn
    induction n with
    | zero => omega
    | succ n ih =>
      rw [upto_succ]
      by_cases e : a = n
      · subst e
        exact ⟨[], by simp⟩
      · obtain ⟨s, hs⟩ := ih (by omega)
        exact ⟨s ++ rowA p q l n q.length, by rw [hs]; simp⟩
  exact key p.length h
theorem rowA_pre (p q : List Bool) (l : Bool) (a : Nat) {b k : Nat} (h : b < k) : ∃ s, rowA p q l a k = rowA p q l a b ++ (first p q l a b, a, b) :: s := by
  induction k with
  | zero => omega
  | succ k ih =>
    rw [rowA_succ]
    by_cases e : b = k
    · subst e
      exact ⟨[], rfl⟩
    · obtain ⟨s, hs⟩ := ih (by omega)
      exact ⟨s ++ [(first p q l a k, a, k)], by rw [hs]; simp⟩
theorem find_none_of {pre : List Row} (h : allMeet pre) : pre.find? (fun r => r.1.isNone) = none := by
  rw [List.find?_eq_none]
  intro r hr
  have := h r hr
  cases e : r.1 with
  | none => exact absurd e this
  | some m => simp
/-- the first pair by which they never meet -/
theorem worst_never {p q : List Bool} {l : Bool} {a b : Nat} (ha : a < p.length) (hb : b < q.length) (h1 : allMeet (upto p q l a)) (h2 : allMeet (rowA p q l a b)) (h : first p q l a b = none) : worst p q l = (none, a, b) := by
  obtain ⟨s, hs⟩ := upto_pre p q l ha
  obtain ⟨s2, hs2⟩ := rowA_pre p q l a hb
  have e : (rows p q l).find? (fun r => r.1.isNone) = some (none, a, b) := by
    rw [hs, hs2, List.find?_append, find_none_of h1, List.find?_append, List.find?_append, find_none_of h2, h]
    rfl
  unfold worst
  rw [e]
theorem worst_all {p q : List Bool} {l : Bool} (h : allMeet (rows p q l)) : worst p q l = ((rows p q l).foldl stp none).getD (none, 0, 0) := by
  unfold worst
  rw [find_none_of h]
theorem mem_rows {p q : List Bool} {l : Bool} {r : Row} : r ∈ rows p q l ↔ ∃ a b, a < p.length ∧ b < q.length ∧ r = (first p q l a b, a, b) := by
  unfold rows upto rowA
  rw [List.mem_flatMap]
  constructor
  · rintro ⟨a, ha, h⟩
    obtain ⟨b, hb, e⟩ := List.mem_map.mp h
    exact ⟨a, b, List.mem_range.mp ha, List.mem_range.mp hb, e.symm⟩
  · rintro ⟨a, b, ha, hb, e⟩
    exact ⟨a, List.mem_range.mpr ha, List.mem_map.mpr ⟨b, List.mem_range.mpr hb, e.symm⟩⟩
/-- the fold from a first one on -/
def bestFrom (b : Row) : List Row → Row
  | [] => b
  | r :: rs => bestFrom (if valR b < valR r then r else b) rs
theorem foldl_best : ∀ (rs : List Row) (b : Row), rs.foldl stp (some b) = some (bestFrom b rs)
  | [], _ => rfl
  | r :: rs, b => by
    rw [List.foldl_cons]
    unfold bestFrom
    show rs.foldl stp (if valR b < valR r then some r else some b) = _
    split
    · exact foldl_best rs r
    · exact foldl_best rs b
theorem head_best (M : Nat) : ∀ (rs : List Row) (b : Row), (∀ r ∈ b :: rs, valR r ≤ M) → (∃ r ∈ b :: rs, valR r = M) → ((b :: rs).filter fun r => decide (valR r = M)).head? = some (bestFrom b rs)
  | [], b, _, h => by
    obtain ⟨r, hr, e⟩ := h
    have : r = b := by simpa using hr
    subst this
    simp [e, bestFrom]
  | r :: rs, b, hle, h => by
    unfold bestFrom
    have hb := hle b (by simp)
    have hr := hle r (by simp)
    by_cases c : valR b < valR r
    · rw [if_pos c]
      have nb : ¬ valR b = M := by omega
      rw [List.filter_cons, if_neg (by simpa using nb)]
      refine head_best M rs r (fun x hx => hle x (List.mem_cons_of_mem _ hx)) ?_
      obtain ⟨x, hx, e⟩ := h
      rcases List.mem_cons.mp hx with rfl | hx
      · exact absurd e nb
      · exact ⟨x, hx, e⟩
    · rw [if_neg c]
      have ih := head_best M rs b (fun x hx => hle x (by
        rcases List.mem_cons.mp hx with rfl | hx
        · simp
        · simp [hx])) (by
        obtain ⟨x, hx, e⟩ := h
        rcases List.mem_cons.mp hx with rfl | hx
        · exact ⟨x, by simp, e⟩
        · rcases List.mem_cons.mp hx with rfl | hx
          · exact ⟨b, by simp, by omega⟩
          · exact ⟨x, by simp [hx], e⟩)
      rw [← ih]
      by_cases nb : valR b = M
      · rw [List.filter_cons (x := b) (xs := r :: rs), if_pos (by simpa using nb), List.filter_cons (x := b) (xs := rs), if_pos (by simpa using nb)]
        rfl
      · rw [List.filter_cons (x := b) (xs := r :: rs), if_neg (by simpa using nb), List.filter_cons (x := r), if_neg (by simpa using (show ¬ valR r = M by omega)), List.filter_cons (x := b) (xs := rs), if_neg (by simpa using nb)]
theorem worst_head {p q : List Bool} {l : Bool} {M : Nat} (h : allMeet (rows p q l)) (hle : ∀ r ∈ rows p q l, valR r ≤ M) (hex : ∃ r ∈ rows p q l, valR r = M) : ((rows p q l).filter fun r => decide (valR r = M)).head? = some (worst p q l) := by
  rw [worst_all h]
  cases e : rows p q l with
  | nil =>
    rw [e] at hex
    obtain ⟨r, hr, _⟩ := hex
    cases hr
  | cons b rs =>
    rw [e] at hle hex
    rw [head_best M rs b hle hex, List.foldl_cons]
    show _ = some ((rs.foldl stp (some b)).getD (none, 0, 0))
    rw [foldl_best]
    rfl
/-- what is known of worst -/
theorem worst_mem {p q : List Bool} {l : Bool} (hp : 0 < p.length) (hq : 0 < q.length) : worst p q l ∈ rows p q l := by
  unfold worst
  cases e : (rows p q l).find? (fun r => r.1.isNone) with
  | some r => exact List.mem_of_find?_eq_some e
  | none =>
    show ((rows p q l).foldl stp none).getD (none, 0, 0) ∈ rows p q l
    cases e2 : rows p q l with
    | nil =>
      have : ((first p q l 0 0, 0, 0) : Row) ∈ rows p q l := mem_rows.mpr ⟨0, 0, hp, hq, rfl⟩
      rw [e2] at this
      cases this
    | cons b rs =>
      rw [List.foldl_cons]
      show (rs.foldl stp (some b)).getD (none, 0, 0) ∈ b :: rs
      rw [foldl_best]
      show bestFrom b rs ∈ b :: rs
      have key : ∀ (rs : List Row) (b : Row), bestFrom b rs ∈ b :: rs := by
        intro rs
        induction rs with
        | nil => intro b; simp [bestFrom]
        | cons r rs ih =>
          intro b
          unfold bestFrom
          have := ih (if valR b < valR r then r else b)
          rcases List.mem_cons.mp this with h | h
          · rw [h]
            split <;> simp
          · simp [h]
      exact key rs b
theorem worst_none_iff {p q : List Bool} {l : Bool} (hp : 0 < p.length) (hq : 0 < q.length) : (worst p q l).1 = none ↔ ∃ a b, a < p.length ∧ b < q.length ∧ first p q l a b = none := by
  constructor
  · intro h
    obtain ⟨a, b, ha, hb, e⟩ := mem_rows.mp (worst_mem (l := l) hp hq)
    rw [e] at h
    exact ⟨a, b, ha, hb, h⟩
  · rintro ⟨a, b, ha, hb, h⟩
    unfold worst
    cases e : (rows p q l).find? (fun r => r.1.isNone) with
    | some r =>
      have := List.find?_some e
      show r.1 = none
      simpa using this
    | none =>
      have := List.find?_eq_none.mp e (none, a, b) (mem_rows.mpr ⟨a, b, ha, hb, by rw [h]⟩)
      simp at this
/-- all meet no later than it -/
theorem worst_le {p q : List Bool} {l : Bool} {m : Nat} (hp : 0 < p.length) (hq : 0 < q.length) (h : (worst p q l).1 = some m) {a b : Nat} (ha : a < p.length) (hb : b < q.length) : ∃ k, first p q l a b = some k ∧ k ≤ m := by
  have hall : allMeet (rows p q l) := by
    intro r hr e
    obtain ⟨a, b, ha, hb, rfl⟩ := mem_rows.mp hr
    rw [(worst_none_iff hp hq).mpr ⟨a, b, ha, hb, e⟩] at h
    cases h
  cases e : first p q l a b with
  | none => exact absurd e (hall _ (mem_rows.mpr ⟨a, b, ha, hb, rfl⟩))
  | some k =>
    refine ⟨k, rfl, ?_⟩
    rw [worst_all hall] at h
    have hm : ((first p q l a b, a, b) : Row) ∈ rows p q l := mem_rows.mpr ⟨a, b, ha, hb, rfl⟩
    cases e2 : rows p q l with
    | nil => rw [e2] at hm; cases hm
    | cons r rs =>
      rw [e2] at h hm
      rw [List.foldl_cons] at h
      have h : ((rs.foldl stp (some r)).getD (none, 0, 0)).1 = some m := h
      rw [foldl_best] at h
      have h : (bestFrom r rs).1 = some m := h
      have key : ∀ (rs : List Row) (b : Row), ∀ x ∈ b :: rs, valR x ≤ valR (bestFrom b rs) := by
        intro rs
        induction rs with
        | nil => intro b x hx; have : x = b := by simpa using hx
                 subst this; exact Nat.le_refl _
        | cons r rs ih =>
          intro b x hx
          unfold bestFrom
          have h0 := ih (if valR b < valR r then r else b) _ (List.mem_cons_self ..)
          rcases List.mem_cons.mp hx with rfl | hx
          · refine Nat.le_trans ?_ h0
            split <;> omega
          · rcases List.mem_cons.mp hx with rfl | hx
            · refine Nat.le_trans ?_ h0
              split <;> omega
            · exact ih _ x (by simp [hx])
      have := key rs r _ hm
      unfold valR at this
      rw [h, e] at this
      exact this
theorem worst_at {p q : List Bool} {l : Bool} (hp : 0 < p.length) (hq : 0 < q.length) : ∃ a b, a < p.length ∧ b < q.length ∧ worst p q l = (first p q l a b, a, b) := mem_rows.mp (worst_mem hp hq)
end Bm
namespace Bm
open PySem PySem.Spec PyProof.Rows L2 Evl
/-! ### defs by name -/
structure Cal (P : Program) (w : World) (K : PySem.W.Frag) (mg : PySem.Str → Option Value) (base : Heap) (k : Nat) (x : PySem.Str) (ps : List PySem.Str) (sp : Sp) : Prop where
  ex : ∃ f fd, FnOk P w K mg base CX0 k f fd ps sp ∧ mg x = some (.ref f) ∧ PySem.W.keepIn K (.ref f) = true ∧ Binds K fd ps [] ∧ ∃ oc od osl, K.lookup f = some ⟨oc, od, .func fd, osl⟩
theorem pe_callC {X : Cx} {k j : Nat} {x : PySem.Str} {ps : List PySem.Str} {sp : Sp} {e : Expr} {es : List Expr} {t : TA} {p pos : Pos} (C : Cal X.prog X.w X.K X.mg X.base k x ps sp) (hr : Room j X.A) (hk : k ≤ j) (ha : PA X (e :: es) t) (hg : Gl X x := by rfl)
    (hdb : (x == ("__debug__" : PySem.Str)) = false := by decide) (he : starEach (e :: es) X.env = (false, eval e X.env) :: starEach es X.env := by rfl) (hpl : (backTo pos (starEach es X.env)).any (·.1) = false := by rfl) :
    PE X (.Call (.Name x p) (e :: es) [] pos) (tCall sp [] E0 t) := by
  obtain ⟨f, fd, F, hm, kp, b, _⟩ := C.ex
  exact pe_call F (hr.mono hk) hg hm kp b .nil pass0 ha hdb he hpl
/-- a def of the text as it stands behind the top -/
structure Def1 (K : PySem.W.Frag) (mg : PySem.Str → Option Value) (x : PySem.Str) (st : Stmt) : Prop where
  ex : ∃ f fd, FunD K x x (defArgs st) (defBody st) (defScope st) [] [] f fd ∧ mg x = some (.ref f)
section
variable {P : Program} {w : World} {K : PySem.W.Frag} {mg : PySem.Str → Option Value} {base : Heap}
theorem Def1.cal {x : PySem.Str} {st : Stmt} {N ps : List PySem.Str} {k : Nat} {sp : Sp} (D : Def1 K mg x st) (S : FnScope N ps (defScope st))
    (hb : ∀ (kV doc pm : Value) (an : Option Addr) (cdv ct : Value) (us : List Value), us.length = ps.length → bindArgs (PySem.W.fnOf x x (defArgs st) (defBody st) (defScope st) .none kV doc pm an cdv ct) ⟨us, []⟩ = pure (ps.zip us))
    (len : ∀ vs H Q E, sp vs H Q E → vs.length = ps.length)
    (hbody : ∀ (f : Addr) (cdv : Value) (A : Around) (outer : List Env) (s : Shared) (H : Hp) (vs : List V) (Q : VK) (E : XK), Room k (A.deeper (envOfC x (defScope st) s.heap.objs.size f cdv)) → sp vs H Q E →
      ∃ t, PSs (cxOf CX0 P w K mg base N x (defScope st) f cdv A outer s H E).nox (defBody st) t ∧ t { nx := fun _ H' => Q .non H', rt := Q } (start N vs) H) : Cal P w K mg base (k + 1) x ps sp := by
  obtain ⟨f, fd, F, hm⟩ := D.ex
  refine ⟨f, fd, F.ok S len fun cdv A outer s H vs Q E hr h => ?_, hm, F.kp, F.bindsN hb, ?_⟩
  rotate_left
  · obtain ⟨oc, od, _, _, _, _, _, _, _, osl, _, lk, _⟩ := F.ex
    exact ⟨oc, od, osl, lk⟩
  obtain ⟨t, h1, h2⟩ := hbody f cdv A outer s H vs Q E hr h
  exact ⟨t, PSs.nox h1, h2⟩
theorem Cal.mono {x : PySem.Str} {ps : List PySem.Str} {j k : Nat} {sp : Sp} (C : Cal P w K mg base j x ps sp) (h : j ≤ k) : Cal P w K mg base k x ps sp := by
  obtain ⟨f, fd, F, r⟩ := C.ex
  exact ⟨f, fd, F.mono h, r⟩
theorem Cal.imp {x : PySem.Str} {ps : List PySem.Str} {k : Nat} {sp sp' : Sp} (C : Cal P w K mg base k x ps sp) (h : ∀ vs H Q E, sp' vs H Q E → sp vs H Q E) : Cal P w K mg base k x ps sp' := by
  obtain ⟨f, fd, F, r⟩ := C.ex
  exact ⟨f, fd, F.imp h, r⟩
end
/-- the promise of a def whose object is known -/
theorem Cal.at_ {P : Program} {w : World} {K : PySem.W.Frag} {mg : PySem.Str → Option Value} {base : Heap} {x : PySem.Str} {ps : List PySem.Str} {k : Nat} {sp : Sp} {f : Addr} {fd : FuncData} (C : Cal P w K mg base k x ps sp) (hm : mg x = some (.ref f)) (hl : ∃ oc od osl, K.lookup f = some ⟨oc, od, .func fd, osl⟩) :
    FnOk P w K mg base CX0 k f fd ps sp := by
  obtain ⟨f', fd', F, hm', _, _, oc, od, osl, hl'⟩ := C.ex
  obtain ⟨oc2, od2, osl2, hl⟩ := hl
  have e : f' = f := by
    rw [hm'] at hm
    exact Value.ref.inj (Option.some.inj hm)
  subst e
  rw [hl'] at hl
  have e2 := Option.some.inj hl
  injection e2 with _ _ e3 _
  injection e3 with e4
  subst e4
  exact F
/-- the names that are still the built-in ones -/
structure Bl (mg : PySem.Str → Option Value) : Prop where
  len : mg "len" = none
  range : mg "range" = none
  int : mg "int" = none
  abs : mg "abs" = none
  max : mg "max" = none
  min : mg "min" = none
  sorted : mg "sorted" = none
  isinstance : mg "isinstance" = none
  bool : mg "bool" = none
  str : mg "str" = none
  tuple : mg "tuple" = none
  list : mg "list" = none
  all : mg "all" = none
  enumerate : mg "enumerate" = none
  set : mg "set" = none
/-! ### constants of the module -/
section
variable {X : Cx}
theorem pe_gS {x z : PySem.Str} {pos : Pos} (h : ∃ t, X.mg x = some (.str z t)) (hg : Gl X x := by rfl) (hd : (x == ("__debug__" : PySem.Str)) = false := by decide) : PE X (.Name x pos) (tC (.str z)) := by
  obtain ⟨t, h⟩ := h
  exact pe_glob hg h ⟨t, rfl⟩ hd
theorem pe_gI {x : PySem.Str} {z : Int} {pos : Pos} (h : ∃ t, X.mg x = some (.int z t)) (hg : Gl X x := by rfl) (hd : (x == ("__debug__" : PySem.Str)) = false := by decide) : PE X (.Name x pos) (tC (.int z)) := by
  obtain ⟨t, h⟩ := h
  exact pe_glob hg h ⟨t, rfl⟩ hd
end
/-! ### enumerate(a text) -/
/-- the signs of x, each in a new pair -/
def ItE (x : PySem.Str) : It :=
  ⟨fun i _ => i < x.cps.size, fun i H v H' => ∃ T c, v = .ref T ∧ H T = none ∧ H' = upd H T (.tup [.int (i : Nat), .str ⟨#[c]⟩]) ∧ x.cps[i]? = some c, fun i _ => i = x.cps.size⟩
theorem turn_enumS {P : Program} {w : World} {K : PySem.W.Frag} {elts : List Expr} {kk : Nat} {tpos : Pos} (e it : Addr) (x : PySem.Str) (t : Tok) :
    Turn P w K (.Tuple elts kk tpos) (ItE x) [e, it] e (fun i h => (∃ old, IsEnum h e it ((i : Nat) : Int) old) ∧ h.IsStrIter it (strIterType x) x t i ∧ e ≠ it) where
  mem := by simp
  obj := fun i h st b hb => by
    obtain ⟨⟨old, he⟩, ⟨o, ho, hc, hd⟩, _⟩ := st
    have e' : b = e ∨ b = it := by simpa using hb
    rcases e' with z | z
    · rw [z]; exact ⟨_, he, fun v q => nomatch q⟩
    · rw [z]; exact ⟨o, ho, fun v q => by rw [hd] at q; cases q⟩
  keep := fun i h h' st k => let ⟨⟨old, he⟩, ⟨o, ho, r⟩, hne⟩ := st; ⟨⟨old, k e (by simp) _ he⟩, ⟨o, k it (by simp) o ho, r⟩, hne⟩
  item := by
    intro X hP hw hK hc i pins s σ H E I hf st hg
    subst hP hw hK
    obtain ⟨⟨old, he⟩, hit, hne⟩ := st
    have hel : e < s.heap.objs.size := Heap.lt_size he
    have hil : it < s.heap.objs.size := by obtain ⟨_, q, _⟩ := hit; exact Heap.lt_size q
    have hd : X.A.in1.handled = none := I.ok.hd hc
    have D := Draws.text (prog := X.prog) (w := X.w) (A := X.A.in1) hd it x t
    refine wpAny_pyNext_enum_itemD D he hit hg hne (by simpa using hne) fun u h' tk hu ho hit' hT hsz hk => ?_
    obtain ⟨c, t', hcx, rfl⟩ := hu
    refine ⟨_, rfl, wpAny_letOwnedTupleGo_enum (s := { s with heap := h', toks := tk + 1 }) ho fun h'' he' sb => ?_⟩
    have hT2 : h''.get? s.heap.objs.size = some { cls := .type "tuple", data := .seq #[.int i tk, .str ⟨#[c]⟩ t'] } := (sb.2 _ (Nat.ne_of_gt hel)).trans hT
    have new : ObjOk X.prog X.w (upd H s.heap.objs.size (.tup [.int (i : Nat), .str ⟨#[c]⟩])) h'' s.heap.objs.size (.tup [.int (i : Nat), .str ⟨#[c]⟩]) :=
      ⟨by show 2 ≤ sizeLine; decide, [.int i tk, .str ⟨#[c]⟩ t'], .cons ⟨_, rfl⟩ (.cons ⟨_, rfl⟩ .nil), ⟨_, hT2, rfl, _, rfl⟩⟩
    have I1 : Inv X pins σ (upd H s.heap.objs.size (.tup [.int (i : Nat), .str ⟨#[c]⟩])) { s with heap := h'', toks := tk + 1 } :=
      I.turnedNew (ch := [e, it]) (fun b ob hb q => (sb.2 b (fun z => hb (by simp [z]))).trans (hk b ob (fun z => hb (by simp [z])) (fun z => hb (by simp [z])) q)) hf (Nat.le_refl _) new
    refine ⟨.ref s.heap.objs.size, _, I1, rfl, ⟨_, c, rfl, I.hok.fresh (Nat.le_refl _), rfl, hcx⟩, ⟨⟨.str ⟨#[c]⟩ t', ?_⟩, ?_, hne⟩, fun b hb => ?_⟩
    · have e1 : ((i + 1 : Nat) : Int) = (i : Int) + 1 := by omega
      rw [e1]; exact he'
    · obtain ⟨o, q, r⟩ := hit'
      exact ⟨o, (sb.2 it (Ne.symm hne)).trans q, r⟩
    · have hb' : b < s.heap.objs.size := by
        have e' : b = e ∨ b = it := by simpa using hb
        rcases e' with z | z
        · rw [z]; exact hel
        · rw [z]; exact hil
      rw [upd_ne (Nat.ne_of_lt hb')]
      exact (hf b hb).1
  done := by
    intro X hP hw hK hc i pins s σ H E I hf st hg
    subst hP hw hK
    obtain ⟨⟨old, he⟩, hit, hne⟩ := st
    obtain ⟨f0, f1, f2, f3, f4, f5⟩ := hf it (by simp)
    have hd : X.A.in1.handled = none := I.ok.hd hc
    have D := Draws.text (prog := X.prog) (w := X.w) (A := X.A.in1) hd it x t
    have hg' : i = x.cps.size := hg
    rw [hg'] at hit
    exact wpAny_pyNext_enum_endD D he hit fun h' eb => ⟨rfl, I.turned (t' := s.toks) (fun b o hb q => eb b o hb q) f0 f1 f3 f4 f5⟩
  self := fun A i s Q E st h => let ⟨⟨_, he⟩, _⟩ := st; wpAny_pyIter_enum he h
def iEnumS (ta : TA) : TI := fun σ H R => ta σ H fun vs H1 => ∃ x, vs = [.str x] ∧ R (ItE x) H1
theorem pi_enumS {X : Cx} {e : Expr} {ta : TA} {p pos tpos : Pos} {elts : List Expr} {kk : Nat} (hg : Gl X "enumerate") (hm : X.mg "enumerate" = none) (ha : PA X [e] ta) (hs : starEach [e] X.env = [(false, eval e X.env)] := by rfl) :
    PI X (.Tuple elts kk tpos) (.Call (.Name "enumerate" p) [e] [] pos) (iEnumS ta) := by
  refine ⟨fun pins s σ H R I h => ?_⟩
  refine Call_ (ld_blt I hg hm boot_enumerate (PyProof.Rows.callWith_type1 (thn (ha.run pos pins s σ H _ I h) fun us s1 ⟨vs, H1, I1, r1, q1⟩ => ?_) hs rfl))
  obtain ⟨x, ex, q⟩ := q1
  subst ex
  cases r1 with
  | cons r rr =>
    cases rr
    obtain ⟨t, rfl⟩ := r
    refine call_enumerate_str fun h' he hit hsz hk => wpAny_pyIter_enum he ?_
    have I2 : Inv X pins σ H1 { s1 with heap := h' } := I1.kept (t' := s1.toks) hk
    refine ⟨s1.heap.objs.size + 1, [s1.heap.objs.size + 1, s1.heap.objs.size], _, _, H1, rfl, I2, turn_enumS (s1.heap.objs.size + 1) s1.heap.objs.size x t, ⟨⟨.none, he⟩, hit, Nat.succ_ne_self _⟩, fun b hb => ?_, q⟩
    have e' : b = s1.heap.objs.size + 1 ∨ b = s1.heap.objs.size := by simpa using hb
    have hle : s1.heap.objs.size ≤ b := by
      rcases e' with z | z
      · rw [z]; exact Nat.le_add_right _ _
      · rw [z]; exact Nat.le_refl _
    exact I1.fpOk hle (I1.hok.fresh hle)
theorem walk_enumS {x : PySem.Str} : Walk (ItE x) x.cps.size (fun _ => True) (fun i H v H' => ∃ T c, v = .ref T ∧ H T = none ∧ H' = upd H T (.tup [.int (i : Nat), .str ⟨#[c]⟩]) ∧ x.cps[i]? = some c) :=
  ⟨fun _ _ hi _ => hi, fun _ _ => rfl, fun _ _ _ _ _ _ y => y⟩
section
variable {X : Cx}
theorem pi_listK {tg l : Expr} {tl : TE} (K : PySem.W.Frag) (hK : X.K = K) (hl : PE X l tl) : PI X tg l (iList K tl) := by
  subst hK
  exact pi_list hl
theorem pg_tupK {es : List Expr} {k : Nat} {t : TGs} {n : Nat} {pos : Pos} (K : PySem.W.Frag) (hK : X.K = K) (hc : X.calm = true) (h : PGs X es t)
    (hn : (assignEach es X.env).length = n := by rfl) (hst : (assignEach es X.env).findIdx? (·.1) = none := by rfl) : PG X (.Tuple es k pos) (gTup K n t) := by
  subst hK
  exact pg_tup hc h hn hst
end
end Bm
namespace Bm
open PySem PySem.Spec PyProof.Rows L2 Evl
/-! ### patterns as texts -/
def sg (b : Bool) : Nat := if b then 49 else 48
def txt (p : List Bool) : PySem.Str := ⟨(p.map sg).toArray⟩
theorem txt_cps (p : List Bool) : (txt p).cps.toList = p.map sg := rfl
theorem txt_len (p : List Bool) : (txt p).length = p.length := by
  show (p.map sg).toArray.size = p.length
  simp
theorem txt_size (p : List Bool) : (txt p).cps.size = p.length := txt_len p
theorem txt_at {p : List Bool} {i : Nat} (h : i < p.length) : (p.map sg)[i]? = some (sg (p.getD i false)) := by
  rw [List.getElem?_map, List.getElem?_eq_getElem h, List.getD_eq_getElem?_getD, List.getElem?_eq_getElem h]
  rfl
theorem sg_inj {a b : Bool} (h : sg a = sg b) : a = b := by
  cases a <;> cases b <;> first | rfl | (exact absurd h (by decide))
theorem map_sg_inj : ∀ {p q : List Bool}, p.map sg = q.map sg → p = q
  | [], [], _ => rfl
  | [], _ :: _, h => by simp at h
  | _ :: _, [], h => by simp at h
  | a :: p, b :: q, h => by
    simp only [List.map_cons, List.cons.injEq] at h
    rw [sg_inj h.1, map_sg_inj h.2]
theorem txt_inj {p q : List Bool} (h : txt p = txt q) : p = q := by
  have e := congrArg (fun z : PySem.Str => z.cps.toList) h
  exact map_sg_inj e
theorem one_is (b : Bool) : decide (V.str ⟨#[sg b]⟩ = V.str "1") = b := by
  cases b <;> decide
theorem sg_one : sg true = 49 := rfl
theorem has1 (p : List Bool) : decide (49 ∈ (txt p).cps.toList) = decide (true ∈ p) := by
  rw [txt_cps]
  congr 1
  apply propext
  constructor
  · intro h
    obtain ⟨b, hb, e⟩ := List.mem_map.mp h
    have : b = true := sg_inj (e.trans sg_one.symm)
    rw [← this]; exact hb
  · intro h
    exact List.mem_map.mpr ⟨true, h, rfl⟩
theorem szl {n : Nat} (h : n ≤ 1000) : n ≤ sizeLine := Nat.le_of_lt (small1000 h)
/-! ### more evaluations -/
section
variable {K : PySem.W.Frag} {σ : L2.St} {H H' : Hp} {ta tb tc te : TE} {x y z v : V}
def rLenStr : List V → Hp → VK → Prop := fun xs H Q => ∃ z, xs = [.str z] ∧ z.length ≤ sizeLine ∧ Q (.int z.length) H
theorem ev_lenS {p : List Bool} (ha : Ev ta σ H (.str (txt p))) (h : p.length ≤ 1000) : Ev (tCB rLenStr (tCons ta tNil)) σ H (.int (p.length : Nat)) := fun H1 e Q q =>
  ha H1 e _ fun H2 e2 => ⟨txt p, rfl, by rw [txt_len]; exact szl h, by rw [txt_len]; exact q H2 e2⟩
theorem ev_addN {a b : Nat} (ha : Ev ta σ H (.int (a : Nat))) (hb : Ev tb σ H (.int (b : Nat))) : Ev (tOp (rI0 fun i j => .int (i + j)) ta tb) σ H (.int ((a + b : Nat) : Int)) :=
  ev_is (ev_op ha hb rv_I0) (by show V.int ((a : Int) + (b : Int)) = _; rw [Int.natCast_add])
theorem ev_mulN {a b : Nat} (ha : Ev ta σ H (.int (a : Nat))) (hb : Ev tb σ H (.int (b : Nat))) (h : a ≤ 1000000) : Ev (tOp (rI CMul fun i j => .int (i * j)) ta tb) σ H (.int ((a * b : Nat) : Int)) :=
  ev_is (ev_op ha hb (rv_I (Or.inl ⟨by omega, by omega⟩))) (by show V.int ((a : Int) * (b : Int)) = _; rw [Int.natCast_mul])
theorem ev_modN {a b : Nat} (ha : Ev ta σ H (.int (a : Nat))) (hb : Ev tb σ H (.int (b : Nat))) (h : 0 < b) : Ev (tOp (rI (fun _ j => 0 < j) fun i j => .int (i % j)) ta tb) σ H (.int ((a % b : Nat) : Int)) :=
  ev_is (ev_op ha hb (rv_I (by show (0 : Int) < (b : Int); omega))) (by show V.int ((a : Int) % (b : Int)) = _; rw [Int.natCast_emod])
theorem ev_ixP {p : List Bool} {i : Nat} (ha : Ev ta σ H (.str (txt p))) (hb : Ev tb σ H (.int (i : Nat))) (hi : i < p.length) (hl : p.length ≤ 1000) : Ev (tOp rIxS ta tb) σ H (.str ⟨#[sg (p.getD i false)]⟩) :=
  ev_op ha hb (rv_ixS (by rw [txt_len]; omega) (by rw [txt_cps]; exact atI_nat (txt_at hi)))
theorem ev_is1 {b : Bool} (ha : Ev ta σ H (.str ⟨#[sg b]⟩)) (hb : Ev tb σ H (.str "1")) : Ev (tOp rEq ta tb) σ H (.bl b) :=
  ev_is (ev_op ha hb (rv_eq rfl)) (by rw [one_is])
theorem ev_no1 {b : Bool} (ha : Ev ta σ H (.str ⟨#[sg b]⟩)) (hb : Ev tb σ H (.str "1")) : Ev (tOp rNe ta tb) σ H (.bl (!b)) :=
  ev_is (ev_op ha hb (rv_ne rfl)) (by rw [one_is])
def rSignNot : R2 := fun x y H Q => ∃ (c : Nat) (z : PySem.Str), x = .str ⟨#[c]⟩ ∧ y = .str z ∧ Q (.bl (!decide (c ∈ z.cps.toList))) H
def rSignIn : R2 := fun x y H Q => ∃ (c : Nat) (z : PySem.Str), x = .str ⟨#[c]⟩ ∧ y = .str z ∧ Q (.bl (decide (c ∈ z.cps.toList))) H
theorem ev_no1in {p : List Bool} (ha : Ev ta σ H (.str "1")) (hb : Ev tb σ H (.str (txt p))) : Ev (tOp rSignNot ta tb) σ H (.bl (!decide (true ∈ p))) :=
  ev_op ha hb fun H1 _ _ q => ⟨49, txt p, rfl, rfl, by rw [has1]; exact q H1 (Ex.refl H1)⟩
theorem ev_1in {p : List Bool} (ha : Ev ta σ H (.str "1")) (hb : Ev tb σ H (.str (txt p))) : Ev (tOp rSignIn ta tb) σ H (.bl (decide (true ∈ p))) :=
  ev_op ha hb fun H1 _ _ q => ⟨49, txt p, rfl, rfl, by rw [has1]; exact q H1 (Ex.refl H1)⟩
def rIsN : R2 := fun x y H Q => y = .non ∧ Q (.bl (decide (x = .non))) H
def rNotN : R2 := fun x y H Q => y = .non ∧ Q (.bl (!decide (x = .non))) H
theorem ev_isN (ha : Ev ta σ H x) : Ev (tOp rIsN ta (tC .non)) σ H (.bl (decide (x = .non))) :=
  ev_op ha ev_c fun H1 _ _ q => ⟨rfl, q H1 (Ex.refl H1)⟩
theorem ev_notN (ha : Ev ta σ H x) : Ev (tOp rNotN ta (tC .non)) σ H (.bl (!decide (x = .non))) :=
  ev_op ha ev_c fun H1 _ _ q => ⟨rfl, q H1 (Ex.refl H1)⟩
/-- an optional moment as a value -/
def oV : Option Nat → V
  | none => .non
  | some m => .int (m : Nat)
theorem oV_is (o : Option Nat) : decide (oV o = .non) = o.isNone := by
  cases o <;> rfl
/-! ### loops over enumerate(text) -/
theorem s_forES {ta : TA} {s : PySem.Str} {g : TG} {tu : TS} {D : Ends} (h : EvA ta σ H [.str s]) (Pv : Nat → L2.St → Hp → Prop) (h0 : ∀ H1, Ex H H1 → Pv 0 σ H1)
    (hs : ∀ i T c σ' H', s.cps[i]? = some c → Pv i σ' H' → H' T = none → g (.ref T) σ' (upd H' T (.tup [.int (i : Nat), .str ⟨#[c]⟩])) fun σ2 H2 => tu { D with nx := Pv (i + 1), ct := Pv (i + 1), bk := D.nx } σ2 H2)
    (hd : ∀ σ' H', Pv s.cps.size σ' H' → D.nx σ' H') : tFor (iEnumS ta) g tu D σ H :=
  h H (Ex.refl H) _ fun H1 e => ⟨s, rfl, for_it walk_enumS Pv (h0 H1 e) (fun _ _ _ _ _ => trivial) (fun i v σ' H' H2 _ p y => by
    obtain ⟨T, c, rfl, hT, rfl, hc⟩ := y
    exact hs i T c σ' H' hc p hT) hd⟩
theorem g_two {T : Addr} {x1 x2 : V} {i j : Nat} {Q : L2.St → Hp → Prop} (h : Q ((σ.set i (some x1)).set j (some x2)) (upd H T (.tup [x1, x2]))) :
    gTup K 2 (gCons (gName i) (gCons (gName j) gNil)) (.ref T) σ (upd H T (.tup [x1, x2])) Q :=
  ⟨T, [x1, x2], rfl, .inl (.inl upd_same), rfl, x1, [x2], rfl, x2, [], rfl, rfl, h⟩
theorem fault_txt {p : List Bool} (h : Pat 12 p) : fault (txt p).cps.toList = none := by
  have hn : (List.range (p.map sg).length).find? (fun i => badAt ((p.map sg).getD i 0) i) = none := find_range_no fun i hi => by
    rw [List.length_map] at hi
    have hh := h.hi
    have e : (p.map sg).getD i 0 = sg (p.getD i false) := by
      rw [List.getD_eq_getElem?_getD, txt_at hi]
      rfl
    rw [e]
    unfold badAt
    rw [decide_eq_false (by omega)]
    cases p.getD i false <;> rfl
  rw [txt_cps]
  unfold fault
  rw [hn]
  show (if 49 ∈ p.map sg then none else some (p.map sg).length) = none
  exact if_pos (List.mem_map.mpr ⟨true, h.has, rfl⟩)
/-- all but what stands at D is as it was -/
def ExB (D : Addr) (H H' : Hp) : Prop := ∀ a o, a ≠ D → H a = some o → H' a = some o
theorem Ex.b {D : Addr} (e : Ex H H') : ExB D H H' := fun a o _ h => e a o h
theorem ExB.refl {D : Addr} : ExB D H H := fun _ _ _ h => h
theorem ExB.trans {D : Addr} {H1 H2 : Hp} (a : ExB D H H1) (b : ExB D H1 H2) : ExB D H H2 := fun x o n h => b x o n (a x o n h)
theorem ExB.upd {D : Addr} {o : HO} : ExB D H (upd H D o) := fun a o n h => by rw [upd_ne n]; exact h
/-- the dice stand at D, all else that G tells stands -/
structure DD (D : Addr) (G H : Hp) : Prop where
  no : G D = none
  ex : Ex G H
  at_ : ∃ ds : List Int, 2 ≤ ds.length ∧ H D = some (.lst (ds.map V.int))
theorem DD.b {D : Addr} {G : Hp} {ds : List Int} (d : DD D G H) (e : ExB D H H') (h2 : 2 ≤ ds.length) (h : H' D = some (.lst (ds.map V.int))) : DD D G H' :=
  ⟨d.no, fun a o q => e a o (ne_of_none q d.no) (d.ex a o q), ds, h2, h⟩
theorem DD.up {D : Addr} {G : Hp} (d : DD D G H) (e : Ex H H') : DD D G H' := by
  obtain ⟨ds, h2, h⟩ := d.at_
  exact d.b (Ex.b e) h2 (e _ _ h)
/-- what stands besides the dice -/
def off_ (H : Hp) (D : Addr) : Hp := fun a => if a = D then none else H a
theorem DD.all {D : Addr} {G : Hp} (d : DD D G H) : DD D (off_ H D) H ∧ Ex G (off_ H D) := by
  refine ⟨⟨by unfold off_; rw [if_pos rfl], fun a o q => ?_, d.at_⟩, fun a o q => ?_⟩
  · unfold off_ at q
    split at q
    · cases q
    · exact q
  · unfold off_
    rw [if_neg (ne_of_none q d.no)]
    exact d.ex a o q
theorem el_cat {xs ys : List V} (ha : EvL ta σ H xs) (hb : EvL tb σ H ys) (hz : xs.length + ys.length ≤ 100000) : EvL (tOp rCat ta tb) σ H (xs ++ ys) := fun H1 e Q q =>
  ha H1 e _ fun p H2 hp e2 h2 => hb H2 (e.trans e2) _ fun p' H3 hp' e3 h3 => ⟨p, p', xs, ys, rfl, rfl, e3 p _ h2, h3, sz_of hz, fun l hl => q l _ (fresh_back (e2.trans e3) hl) ((e2.trans e3).trans (Ex.new hl)) upd_same⟩
theorem ev_cbL {r : List V → Hp → VK → Prop} {xs : List V} (ha : EvL ta σ H xs) (hr : ∀ p H1, H1 p = some (.lst xs) → Ex H H1 → RC r [.ref p] H1 z) : Ev (tCB r (tCons ta tNil)) σ H z := fun H1 e Q q =>
  ha H1 e _ fun p H2 hp e2 h2 => hr p H2 h2 (e.trans e2) H2 (Ex.refl H2) Q fun H3 e3 => q H3 (e2.trans e3)
/-! ### readings where the heap changes -/
theorem r_op {r : R2} {Q : VK} (ha : Ev ta σ H x) (hb : ∀ H1, Ex H H1 → tb σ H1 fun y H2 => r x y H2 Q) : tOp r ta tb σ H Q := ha H (Ex.refl H) _ hb
theorem r_opc {r : R2} {Q : VK} {c : V} (ha : ta σ H fun x H1 => r x c H1 Q) : tOp r ta (tC c) σ H Q := ha
theorem r_op2 {r : R2} {Q : VK} (ha : ta σ H fun x H1 => tb σ H1 fun y H2 => r x y H2 Q) : tOp r ta tb σ H Q := ha
theorem r_cb1 {r : List V → Hp → VK → Prop} {Q : VK} (ha : ta σ H fun x H1 => r [x] H1 Q) : tCB r (tCons ta tNil) σ H Q := ha
theorem r_call {sp : Sp} {E : XK} {ta : TA} {vs : List V} {Q : VK} (h : EvA ta σ H vs) (hs : ∀ H1, Ex H H1 → sp (vs ++ []) H1 Q E) : tCall sp [] E ta σ H Q := h H (Ex.refl H) _ hs
theorem r_call2 {sp : Sp} {E : XK} {Q : VK} (h : ta σ H fun x H1 => tb σ H1 fun y H2 => sp [x, y] H2 Q E) : tCall sp [] E (tCons ta (tCons tb tNil)) σ H Q := h
theorem r_asg {i : Nat} {D : Ends} (h : te σ H fun x H1 => D.nx (σ.set i (some x)) H1) : tAsg te (gName i) D σ H := h
theorem r_qasg {i : Nat} {D : Ends} {tz : TS} (h : te σ H fun x H1 => tz D (σ.set i (some x)) H1) : tSeq (tAsg te (gName i)) tz D σ H := h
theorem r_qdrop {D : Ends} {tz : TS} (h : te σ H fun x H1 => tz D σ H1) : tSeq (tDrop te) tz D σ H := h
theorem r_qpar {i j : Nat} {D : Ends} {tz : TS} (h : ta σ H fun x H1 => tb σ H1 fun y H2 => ∃ v w, [x, y] = [v, w] ∧ tz D ((σ.set i (some v)).set j (some w)) H2) : tSeq (tPar i j (tCons ta (tCons tb tNil))) tz D σ H := h
theorem r_par {i j : Nat} {D : Ends} (h : ta σ H fun x H1 => tb σ H1 fun y H2 => ∃ v w, [x, y] = [v, w] ∧ D.nx ((σ.set i (some v)).set j (some w)) H2) : tPar i j (tCons ta (tCons tb tNil)) D σ H := h
theorem r_ret {D : Ends} (h : te σ H D.rt) : tRet te D σ H := h
theorem r_if {t : TT} {D : Ends} {tu tw : TS} (h : t σ H fun b H1 => if b = true then tu D σ H1 else tw D σ H1) : tIfS t tu tw D σ H := h
theorem r_qif {t : TT} {D : Ends} {tu tw tz : TS} (h : t σ H fun b H1 => if b = true then tu { D with nx := tz D } σ H1 else tw { D with nx := tz D } σ H1) : tSeq (tIfS t tu tw) tz D σ H := h
theorem r_test {Q : Bool → Hp → Prop} (h : te σ H fun x H1 => ∃ k, x = .bl k ∧ Q k H1) : tTest te σ H Q := h
theorem r_B {Q : Bool → Hp → Prop} (h : te σ H fun x H1 => ∃ k, x = .bl k ∧ Q k H1) : tB te σ H Q := h
theorem r_yes {Q1 : VK} {Q2 : Hp → Prop} (h : te σ H Q1) : tYes σ H (fun b H3 => if b = true then te σ H3 Q1 else Q2 H3) := by
  show if true = true then te σ H Q1 else Q2 H
  exact iteT h
/-! ### isinstance -/
theorem ty_l {a : Addr} {xs : List V} (h : SqL K H a xs) : TyX K H (.ref a) (.type "list") := by
  rcases h with (h | ⟨o, h⟩) | ⟨o, _, _, h1, h2, _⟩
  · exact .base (.lst h)
  · exact .base (.frz h)
  · exact .kList h1 h2
theorem ty_t {a : Addr} {xs : List V} (h : SqT K H a xs) : TyX K H (.ref a) (.type "tuple") := by
  rcases h with (h | ⟨o, h⟩) | ⟨o, _, _, h1, h2, _⟩
  · exact .base (.tup h)
  · exact .fTuple h
  · exact .kTuple h1 h2
theorem ev_isi {a b : String} {r : Bool} (ha : Ev ta σ H x) (ht : ∀ H1, Ex H H1 → TyX K H1 x (.type a)) (hk : kitB a b = some r) : Ev (tCB (rIsi K) (tCons ta (tCons (tC (.ty b)) tNil))) σ H (.bl r) := fun H1 e Q q =>
  ha H1 e _ fun H2 e2 => ⟨x, .ty b, .type a, .type b, r, rfl, .ty b, ht H2 (e.trans e2), kit_ty hk, q H2 e2⟩
/-- v and u are the same data, n deep -/
def sc1 : V → Bool
  | .non => true
  | .bl _ => true
  | .int _ => true
  | .str _ => true
  | _ => false
def Al (K : PySem.W.Frag) (H : Hp) : Nat → V → V → Prop
  | 0, v, u => v = u ∧ sc1 v = true
  | n + 1, v, u => (v = u ∧ sc1 v = true) ∨ ∃ a b xs ys, v = .ref a ∧ u = .ref b ∧ ((SqL K H a xs ∧ SqL K H b ys) ∨ (SqT K H a xs ∧ SqT K H b ys)) ∧ xs.length = ys.length ∧ xs.length ≤ 40000 ∧
      ∀ (i : Nat) x y, xs[i]? = some x → ys[i]? = some y → Al K H n x y
theorem Al.up (e : Ex H H') : ∀ {n : Nat} {v u : V}, Al K H n v u → Al K H' n v u
  | 0, _, _, h => h
  | n + 1, _, _, h => by
    rcases h with h | ⟨a, b, xs, ys, e1, e2, h3, h4, h5, h6⟩
    · exact .inl h
    · refine .inr ⟨a, b, xs, ys, e1, e2, ?_, h4, h5, fun i x y hx hy => Al.up e (h6 i x y hx hy)⟩
      rcases h3 with ⟨p, q⟩ | ⟨p, q⟩
      · exact .inl ⟨ex_l e p, ex_l e q⟩
      · exact .inr ⟨ex_t e p, ex_t e q⟩
theorem al_sc {n : Nat} (h : sc1 v = true) : Al K H n v v := by
  cases n with
  | zero => exact ⟨rfl, h⟩
  | succ n => exact .inl ⟨rfl, h⟩
/-! ### texts -/
theorem str_ext {a b : PySem.Str} (h : a.cps.toList = b.cps.toList) : a = b := by
  obtain ⟨⟨x⟩⟩ := a
  obtain ⟨⟨y⟩⟩ := b
  have h : x = y := h
  rw [h]
theorem joinL_nil : ∀ ps : List (List Nat), TL.joinL [] ps = ps.flatten
  | [] => rfl
  | [p] => by simp [TL.joinL]
  | p :: q :: r => by
    show p ++ ([] ++ TL.joinL [] (q :: r)) = _
    rw [joinL_nil (q :: r)]
    rfl
theorem flat_one : ∀ p : List Bool, (p.map fun b => [sg b]).flatten = p.map sg
  | [] => rfl
  | b :: p => by
    show [sg b] ++ (p.map fun b => [sg b]).flatten = sg b :: p.map sg
    rw [flat_one p]
    rfl
theorem join_txt (p : List Bool) : Txt.join "" (p.map fun b => (⟨#[sg b]⟩ : PySem.Str)) = txt p := by
  apply str_ext
  rw [TL.join_eq]
  refine (TL.tl_join "" _).trans ?_
  show TL.joinL [] _ = p.map sg
  rw [joinL_nil, List.map_map, ← flat_one]
  rfl
theorem txt_app (p q : List Bool) : txt p ++ txt q = txt (p ++ q) := by
  apply str_ext
  show ((txt p).cps ++ (txt q).cps).toList = (p ++ q).map sg
  rw [Array.toList_append, List.map_append]
  rfl
theorem cut_drop (p : List Bool) (k : Nat) : cutS (txt p) (some (k : Nat)) none = txt (p.drop k) := by
  apply str_ext
  show ((p.map sg).drop (HT.sIx (txt p).length 0 (some (k : Nat)))).take (HT.sIx (txt p).length (txt p).length none - HT.sIx (txt p).length 0 (some (k : Nat))) = (p.drop k).map sg
  rw [txt_len, show HT.sIx p.length 0 (some ((k : Nat) : Int)) = min k p.length from HT.sIx_nat _ _ _, HT.sIx_none, ← List.map_drop, ← List.map_take]
  congr 1
  rw [List.take_of_length_le (by rw [List.length_drop]; exact Nat.le_refl _)]
  by_cases h : k ≤ p.length
  · rw [Nat.min_eq_left h]
  · rw [Nat.min_eq_right (by omega), List.drop_length, List.drop_eq_nil_of_le (by omega)]
theorem cut_take (p : List Bool) (k : Nat) : cutS (txt p) none (some (k : Nat)) = txt (p.take k) := by
  apply str_ext
  show ((p.map sg).drop (HT.sIx (txt p).length 0 none)).take (HT.sIx (txt p).length (txt p).length (some (k : Nat)) - HT.sIx (txt p).length 0 none) = (p.take k).map sg
  rw [txt_len, show HT.sIx p.length p.length (some ((k : Nat) : Int)) = min k p.length from HT.sIx_nat _ _ _, HT.sIx_none, List.drop_zero, Nat.sub_zero, ← List.map_take]
  congr 1
  by_cases h : k ≤ p.length
  · rw [Nat.min_eq_left h]
  · rw [Nat.min_eq_right (by omega), List.take_length, List.take_of_length_le (by omega)]
def rAddS : R2 := fun x y H Q => ∃ i j, x = .str i ∧ y = .str j ∧ i.length + j.length ≤ sizeLine ∧ Q (.str (i ++ j)) H
theorem ev_addS {p q : List Bool} (ha : Ev ta σ H (.str (txt p))) (hb : Ev tb σ H (.str (txt q))) (hz : p.length + q.length ≤ 1000) : Ev (tOp rAddS ta tb) σ H (.str (txt (p ++ q))) :=
  ev_op ha hb fun H1 _ _ q' => ⟨txt p, txt q, rfl, rfl, by rw [txt_len, txt_len]; exact szl hz, by rw [txt_app]; exact q' H1 (Ex.refl H1)⟩
theorem ev_drop {p : List Bool} {k : Nat} (ha : Ev ta σ H (.str (txt p))) (hb : Ev tb σ H (.int (k : Nat))) (hz : p.length ≤ 1000) : Ev (tSl rSlS ta (tPart tb) tNoPart) σ H (.str (txt (p.drop k))) := fun H1 e Q q =>
  ha H1 e _ fun H2 e2 => hb H2 (e.trans e2) _ fun H3 e3 => ⟨_, rfl, txt p, rfl, by rw [txt_len]; exact szl hz, by rw [cut_drop]; exact q H3 (e2.trans e3)⟩
theorem ev_take {p : List Bool} {k : Nat} (ha : Ev ta σ H (.str (txt p))) (hb : Ev tb σ H (.int (k : Nat))) (hz : p.length ≤ 1000) : Ev (tSl rSlS ta tNoPart (tPart tb)) σ H (.str (txt (p.take k))) := fun H1 e Q q =>
  ha H1 e _ fun H2 e2 => hb H2 (e.trans e2) _ fun H3 e3 => ⟨_, rfl, txt p, rfl, by rw [txt_len]; exact szl hz, by rw [cut_take]; exact q H3 (e2.trans e3)⟩
theorem txt1 : ("1" : PySem.Str) = txt [true] := rfl
theorem txt0 : ("0" : PySem.Str) = txt [false] := rfl
end
/-- one sign, so many times -/
def rRepS : R2 := fun x y H Q => ∃ (c n : Nat), x = .str ⟨#[c]⟩ ∧ y = .int (n : Nat) ∧ n ≤ 1000 ∧ Q (.str ⟨(List.replicate n c).toArray⟩) H
theorem rep_fold (c : Nat) : ∀ (n : Nat) (acc : Array Nat), ((List.replicate n (#[c] : Array Nat)).foldl (· ++ ·) acc).toList = acc.toList ++ List.replicate n c
  | 0, acc => by simp
  | n + 1, acc => by
    rw [List.replicate_succ, List.foldl_cons, rep_fold c n, List.replicate_succ]
    simp
theorem op_rep_str {X : Cx} : OpR X (binaryOp .Mult) rRepS := by
  intro pins s σ H x y v u Q I rx ry h
  obtain ⟨c, n, rfl, rfl, hn, q⟩ := h
  obtain ⟨t, rfl⟩ := rx
  obtain ⟨t', rfl⟩ := ry
  have hsz : (1 : Nat) ≤ sizeLine := by decide
  have hl1 : (⟨#[c]⟩ : PySem.Str).length = 1 := rfl
  refine PySem.P.mul_str ?_ ?_ ?_ ?_
  · rw [decide_eq_false (by omega), decide_eq_false (by omega)]
    rfl
  · intro h1 _
    rw [hl1]
    intro h2
    have h3 : ((2 : Int) ^ 63 - 1) / (n : Int) ≥ 1 := (Int.le_ediv_iff_mul_le (by omega)).mpr (by omega)
    omega
  · intro h1 _
    show decide ((⟨#[c]⟩ : PySem.Str).length * ((n : Int)).toNat > sizeLine) = false
    rw [hl1, Nat.one_mul, Int.toNat_natCast]
    exact decide_eq_false (Nat.not_lt.mpr (szl hn))
  · by_cases h0 : n = 0
    · subst h0
      rw [if_pos (by decide)]
      exact ⟨by decide, ⟨.str ⟨#[]⟩, H, I.tok _, ⟨_, rfl⟩, q⟩⟩
    · rw [if_neg (by omega)]
      by_cases h1 : n = 1
      · subst h1
        rw [if_pos (by simp)]
        exact ⟨.str ⟨#[c]⟩, H, I, ⟨_, rfl⟩, q⟩
      · have hb : (((n : Int) == 1) || (⟨#[c]⟩ : PySem.Str).length == 0) = false := by
          rw [hl1]
          simp
          omega
        rw [if_neg (by rw [hb]; exact Bool.false_ne_true)]
        have e : (⟨(List.replicate ((n : Int)).toNat (⟨#[c]⟩ : PySem.Str).cps).foldl (· ++ ·) #[]⟩ : PySem.Str) = ⟨(List.replicate n c).toArray⟩ := by
          apply str_ext
          rw [Int.toNat_natCast]
          show ((List.replicate n (#[c] : Array Nat)).foldl (· ++ ·) #[]).toList = List.replicate n c
          rw [rep_fold]
          rfl
        rw [e]
        refine ⟨?_, ⟨.str ⟨(List.replicate n c).toArray⟩, H, I.tok _, ⟨_, rfl⟩, q⟩⟩
        show (List.replicate n c).toArray.size ≤ sizeLine
        rw [List.size_toArray, List.length_replicate]
        exact szl hn
theorem rep_txt (n : Nat) (b : Bool) : (⟨(List.replicate n (sg b)).toArray⟩ : PySem.Str) = txt (List.replicate n b) := by
  unfold txt
  rw [List.map_replicate]
theorem ev_repS {σ : L2.St} {H : Hp} {ta tb : TE} {b : Bool} {n : Nat} (ha : Ev ta σ H (.str (txt [b]))) (hb : Ev tb σ H (.int (n : Nat))) (hn : n ≤ 1000) : Ev (tOp rRepS ta tb) σ H (.str (txt (List.replicate n b))) :=
  ev_op ha hb fun H1 _ _ q' => ⟨sg b, n, rfl, rfl, hn, by rw [rep_txt]; exact q' H1 (Ex.refl H1)⟩
/-! ### the beats awake, as values -/
def onesV (p : List Bool) : List V := (ones p).map fun i => V.int (i : Nat)
theorem ones_given (p : List Bool) : given p.length (fun i => p.getD i false) (fun i => .int (i : Nat)) = onesV p := rfl
def spOnes : Sp := fun vs H Q _ => ∃ p : List Bool, vs = [.str (txt p)] ∧ p.length ≤ 1000 ∧ RetL (onesV p) H Q
theorem in_onesV {p : List Bool} (h : 0 < p.length) (i : Nat) : inV (.int ((i % p.length : Nat) : Int)) (onesV p) = aw p i := by
  rw [aw_iff h]
  unfold inV onesV
  rw [List.any_map]
  have e : ∀ j : Nat, ((fun y => eqV y (.int ((i % p.length : Nat) : Int))) ∘ fun j : Nat => V.int (j : Nat)) j = decide (j = i % p.length) := by
    intro j
    show decide (((j : Nat) : Int) = ((i % p.length : Nat) : Int)) = _
    exact decide_eq_decide.mpr (by omega)
  rw [List.any_eq]
  refine decide_eq_decide.mpr ?_
  constructor
  · rintro ⟨j, hj, h2⟩
    rw [e j] at h2
    rw [← of_decide_eq_true h2]
    exact hj
  · intro h2
    exact ⟨_, h2, by rw [e]; exact decide_eq_true rfl⟩
theorem onesV_flat (p : List Bool) : (onesV p).all flatV = true := by
  unfold onesV
  rw [List.all_map, List.all_eq_true]
  intro _ _
  rfl
theorem onesV_len (p : List Bool) : (onesV p).length ≤ p.length := by
  unfold onesV ones
  rw [List.length_map]
  have := List.length_filter_le (fun i => p.getD i false) (List.range p.length)
  rw [List.length_range] at this
  exact this
theorem DD.set {D : Addr} {G H : Hp} {p : Addr} {o : HO} (d : DD D G H) (hp : G p = none) (hD : p ≠ D) : DD D G (upd H p o) := by
  obtain ⟨ds, h2, h⟩ := d.at_
  exact ⟨d.no, fun a u q => by rw [upd_ne (ne_of_none q hp)]; exact d.ex a u q, ds, h2, by rw [upd_ne hD.symm]; exact h⟩
theorem DD.ne {D : Addr} {G H : Hp} {p : Addr} (d : DD D G H) (hp : H p = none) : p ≠ D := by
  obtain ⟨ds, _, h⟩ := d.at_
  exact (ne_of_none h hp).symm
theorem ev_chain {K : PySem.W.Frag} {σ : L2.St} {H : Hp} {ta tb tc : TE} {r r' : R2} {x y z : V} {b c : Bool} (ha : Ev ta σ H x) (hb : Ev tb σ H y) (hc : Ev tc σ H z) (h1 : RV r x y H (.bl b)) (h2 : RV r' y z H (.bl c)) : Ev (tChain r r' ta tb tc) σ H (.bl (b && c)) := fun H1 e Q q =>
  ha H1 e _ fun H2 e2 => hb H2 (e.trans e2) _ fun H3 e3 => h1 H3 ((e.trans e2).trans e3) _ fun H4 e4 => ⟨b, rfl, by
    cases b with
    | true =>
      rw [if_pos rfl]
      exact hc H4 (((e.trans e2).trans e3).trans e4) _ fun H5 e5 => h2 H5 ((((e.trans e2).trans e3).trans e4).trans e5) _ fun H6 e6 => q H6 ((((e2).trans e3).trans e4).trans (e5.trans e6))
    | false =>
      rw [if_neg Bool.false_ne_true]
      exact q H4 ((e2.trans e3).trans e4)⟩
end Bm
namespace Bm
open PySem PySem.Spec PyProof.Rows L2 Evl
/-! ### cells: a plain value, or a tuple of plain values -/
inductive Cel where
  | v (x : V)
  | t (xs : List V)
def Is (K : PySem.W.Frag) (H : Hp) (v : V) : Cel → Prop
  | .v x => v = x
  | .t xs => ∃ a, v = .ref a ∧ SqT K H a xs
section
variable {K : PySem.W.Frag} {σ : L2.St} {H H' H1 H2 : Hp} {ta tb te tl : TE} {t : TT} {x y z v : V} {c : Cel}
theorem Is.up (h : Is K H v c) (e : Ex H H') : Is K H' v c := by
  cases c with
  | v x => exact h
  | t xs =>
    obtain ⟨a, h1, h2⟩ := h
    exact ⟨a, h1, ex_t e h2⟩
/-- all but lists is as it was -/
def ExT (H H' : Hp) : Prop := ∀ a xs, (H a = some (.tup xs) → H' a = some (.tup xs)) ∧ ∀ o, H a = some (.frz o (.tup xs)) → H' a = some (.frz o (.tup xs))
theorem Ex.toT (e : Ex H H') : ExT H H' := fun a xs => ⟨fun h => e _ _ h, fun o h => e _ _ h⟩
theorem ExB.toT {D : Addr} {l : List V} (e : ExB D H H') (hD : H D = some (.lst l)) : ExT H H' := fun a xs =>
  ⟨fun h => e _ _ (fun z => by rw [z, hD] at h; cases h) h, fun o h => e _ _ (fun z => by rw [z, hD] at h; cases h) h⟩
theorem ExT.upd {D : Addr} {l : List V} {o : HO} (hD : H D = some (.lst l)) : ExT H (upd H D o) := ExB.toT ExB.upd hD
theorem Is.ut (h : Is K H v c) (e : ExT H H') : Is K H' v c := by
  cases c with
  | v x => exact h
  | t xs =>
    obtain ⟨a, h1, h2⟩ := h
    refine ⟨a, h1, ?_⟩
    rcases h2 with (h | ⟨o, h⟩) | h
    · exact .inl (.inl ((e a xs).1 h))
    · exact .inl (.inr ⟨o, (e a xs).2 o h⟩)
    · exact .inr h
abbrev IsAll (K : PySem.W.Frag) (H : Hp) : List V → List Cel → Prop := Paired (Is K H)
theorem IsAll.up {xs : List V} {cs : List Cel} (h : IsAll K H xs cs) (e : Ex H H') : IsAll K H' xs cs := Paired.mapP h fun _ _ q => q.up e
theorem IsAll.ut {xs : List V} {cs : List Cel} (h : IsAll K H xs cs) (e : ExT H H') : IsAll K H' xs cs := Paired.mapP h fun _ _ q => q.ut e
theorem pr_get {α β : Type} {F : α → β → Prop} : ∀ {xs : List α} {ys : List β} {i : Nat} {x : α}, Paired F xs ys → xs[i]? = some x → ∃ y, ys[i]? = some y ∧ F x y
  | _, _, _, _, .nil, e => by simp at e
  | _, _, 0, _, .cons r _, e => by simp at e; subst e; exact ⟨_, rfl, r⟩
  | _, _, i + 1, x, .cons _ t, e => by
    obtain ⟨u, h1, h2⟩ := pr_get (i := i) (x := x) t (by simpa using e)
    exact ⟨u, by simpa using h1, h2⟩
theorem pr_get' {α β : Type} {F : α → β → Prop} : ∀ {xs : List α} {ys : List β} {i : Nat} {y : β}, Paired F xs ys → ys[i]? = some y → ∃ x, xs[i]? = some x ∧ F x y
  | _, _, _, _, .nil, e => by simp at e
  | _, _, 0, _, .cons r _, e => by simp at e; subst e; exact ⟨_, rfl, r⟩
  | _, _, i + 1, x, .cons _ t, e => by
    obtain ⟨u, h1, h2⟩ := pr_get' (i := i) (y := x) t (by simpa using e)
    exact ⟨u, by simpa using h1, h2⟩
theorem pr_len {α β : Type} {F : α → β → Prop} {xs : List α} {ys : List β} (h : Paired F xs ys) : xs.length = ys.length := Paired.length h
theorem pr_app {α β : Type} {F : α → β → Prop} : ∀ {xs xs' : List α} {ys ys' : List β}, Paired F xs ys → Paired F xs' ys' → Paired F (xs ++ xs') (ys ++ ys')
  | _, _, _, _, .nil, h => h
  | _, _, _, _, .cons r t, h => .cons r (pr_app t h)
theorem pr_vals : ∀ {xs ys : List V}, Paired (Is K H) xs (ys.map .v) → xs = ys
  | _, [], h => by cases h; rfl
  | _, y :: ys, h => by
    cases h with
    | cons r t =>
      rw [pr_vals t]
      exact congrArg (· :: ys) r
theorem vals_pr : ∀ ys : List V, Paired (Is K H) ys (ys.map .v)
  | [] => .nil
  | y :: ys => .cons rfl (vals_pr ys)
/-- evaluates to a cell; to a new list of cells -/
def EvC (K : PySem.W.Frag) (te : TE) (σ : L2.St) (H : Hp) (c : Cel) : Prop := ∀ H1, Ex H H1 → ∀ Q : VK, (∀ v H2, Ex H1 H2 → Is K H2 v c → Q v H2) → te σ H1 Q
def EvN (K : PySem.W.Frag) (te : TE) (σ : L2.St) (H : Hp) (cs : List Cel) : Prop := ∀ H1, Ex H H1 → ∀ Q : VK, (∀ p xs H2, H1 p = none → Ex H1 H2 → H2 p = some (.lst xs) → IsAll K H2 xs cs → Q (.ref p) H2) → te σ H1 Q
def RetC (K : PySem.W.Frag) (c : Cel) (H : Hp) (Q : VK) : Prop := ∀ v H2, Ex H H2 → Is K H2 v c → Q v H2
def RetN (K : PySem.W.Frag) (cs : List Cel) (H : Hp) (Q : VK) : Prop := ∀ p xs H2, H p = none → Ex H H2 → H2 p = some (.lst xs) → IsAll K H2 xs cs → Q (.ref p) H2
theorem EvC.mono (h : EvC K te σ H c) (e : Ex H H') : EvC K te σ H' c := fun H1 a Q q => h H1 (e.trans a) Q q
theorem EvN.mono {cs : List Cel} (h : EvN K te σ H cs) (e : Ex H H') : EvN K te σ H' cs := fun H1 a Q q => h H1 (e.trans a) Q q
theorem ec_ev (h : Ev te σ H x) : EvC K te σ H (.v x) := fun H1 e Q q => h H1 e Q fun H2 e2 => q x H2 e2 rfl
theorem ev_ec (h : EvC K te σ H (.v x)) : Ev te σ H x := fun H1 e Q q => h H1 e Q fun v H2 e2 i => by
  have i : v = x := i
  rw [i]
  exact q H2 e2
theorem en_el {xs : List V} (h : EvL te σ H xs) : EvN K te σ H (xs.map .v) := fun H1 e Q q => h H1 e Q fun p H2 hp e2 h2 => q p xs H2 hp e2 h2 (vals_pr xs)
theorem el_en {xs : List V} (h : EvN K te σ H (xs.map .v)) : EvL te σ H xs := fun H1 e Q q => h H1 e Q fun p ys H2 hp e2 h2 i => by
  rw [pr_vals i] at h2
  exact q p H2 hp e2 h2
theorem ec_var {i : Nat} (h : σ[i]? = some (some v)) (hi : Is K H v c) : EvC K (tVar i) σ H c := fun H1 e Q q => ⟨v, h, q v H1 (Ex.refl H1) (hi.up e)⟩
theorem ec_tup {ta : TA} {xs : List V} (h : EvA ta σ H xs) (hl : xs.length ≤ 1000) : EvC K (tTup ta) σ H (.t xs) := fun H1 e Q q =>
  h H1 e _ fun H2 e2 => ⟨szl hl, fun p hp => q _ _ (e2.trans (Ex.new hp)) ⟨p, rfl, .inl (.inl upd_same)⟩⟩
theorem ec_call {sp : Sp} {E : XK} {ta : TA} {vs : List V} (h : EvA ta σ H vs) (hs : ∀ H1, Ex H H1 → ∀ Q : VK, RetC K c H1 Q → sp (vs ++ []) H1 Q E) : EvC K (tCall sp [] E ta) σ H c := fun H1 e Q q =>
  h H1 e _ fun H2 e2 => hs H2 (e.trans e2) Q fun v H3 e3 i => q v H3 (e2.trans e3) i
theorem en_call {sp : Sp} {E : XK} {ta : TA} {vs : List V} {cs : List Cel} (h : EvA ta σ H vs) (hs : ∀ H1, Ex H H1 → ∀ Q : VK, RetN K cs H1 Q → sp (vs ++ []) H1 Q E) : EvN K (tCall sp [] E ta) σ H cs := fun H1 e Q q =>
  h H1 e _ fun H2 e2 => hs H2 (e.trans e2) Q fun p xs H3 hp e3 h3 i => q p xs H3 (fresh_back e2 hp) (e2.trans e3) h3 i
/-- c[i] of a tuple -/
theorem ev_ixC {xs : List V} {i : Nat} (h : EvC K ta σ H (.t xs)) (hb : Ev tb σ H (.int (i : Nat))) (hi : xs[i]? = some v) : Ev (tOp (rIxT K) ta tb) σ H v := fun H1 e Q q =>
  h H1 e _ fun w H2 e2 is => by
    obtain ⟨a, rfl, hs⟩ := is
    exact hb H2 (e.trans e2) _ fun H3 e3 => ⟨a, xs, (i : Nat), v, rfl, rfl, ex_t e3 hs, atI_nat hi, q H3 (e2.trans e3)⟩
theorem en_cat {cs ds : List Cel} (ha : EvN K ta σ H cs) (hb : EvN K tb σ H ds) (hz : cs.length + ds.length ≤ 100000) : EvN K (tOp rCat ta tb) σ H (cs ++ ds) := fun H1 e Q q =>
  ha H1 e _ fun p xs H2 hp e2 h2 i2 => hb H2 (e.trans e2) _ fun p' ys H3 hp' e3 h3 i3 => ⟨p, p', xs, ys, rfl, rfl, e3 p _ h2, h3, by rw [pr_len i2, pr_len i3]; exact sz_of hz, fun l hl => q l _ _ (fresh_back (e2.trans e3) hl) ((e2.trans e3).trans (Ex.new hl)) upd_same (pr_app ((i2.up e3).up (Ex.new hl)) (i3.up (Ex.new hl)))⟩
/-- a list that stands, + a new one -/
theorem en_catV {a : Addr} {xs : List V} {cs ds : List Cel} (ha : Ev ta σ H (.ref a)) (hx : H a = some (.lst xs)) (hi : IsAll K H xs cs) (hb : EvN K tb σ H ds) (hz : cs.length + ds.length ≤ 100000) : EvN K (tOp rCat ta tb) σ H (cs ++ ds) := fun H1 e Q q =>
  ha H1 e _ fun H2 e2 => hb H2 (e.trans e2) _ fun p' ys H3 hp' e3 h3 i3 => ⟨a, p', xs, ys, rfl, rfl, ((e.trans e2).trans e3) a _ hx, h3, by rw [pr_len hi, pr_len i3]; exact sz_of hz, fun l hl => q l _ _ (fresh_back (e2.trans e3) hl) ((e2.trans e3).trans (Ex.new hl)) upd_same (pr_app (hi.up (((e.trans e2).trans e3).trans (Ex.new hl))) (i3.up (Ex.new hl)))⟩
/-! ### comprehensions that give cells -/
def givenC (n : Nat) (f : Nat → Bool) (g : Nat → Cel) : List Cel := ((List.range n).filter f).map g
theorem givenC_yes {n : Nat} {f : Nat → Bool} {g : Nat → Cel} (h : f n = true) : givenC (n + 1) f g = givenC n f g ++ [g n] := by
  unfold givenC
  rw [List.range_succ, List.filter_append, List.map_append, List.filter_cons, if_pos h] <;> rfl
theorem givenC_no {n : Nat} {f : Nat → Bool} {g : Nat → Cel} (h : f n = false) : givenC (n + 1) f g = givenC n f g := by
  unfold givenC
  rw [List.range_succ, List.filter_append, List.map_append, List.filter_cons, if_neg (by rw [h]; decide)]
  show _ ++ [] = _
  rw [List.append_nil]
theorem givenC_len (n : Nat) (f : Nat → Bool) (g : Nat → Cel) : (givenC n f g).length ≤ n := by
  unfold givenC
  rw [List.length_map]
  have h := List.length_filter_le f (List.range n)
  rw [List.length_range] at h
  exact h
def Cv (K : PySem.W.Frag) (H : Hp) (f : Nat → Bool) (g : Nat → Cel) (Dl : Addr) (i : Nat) (H' : Hp) : Prop := H Dl = none ∧ Ex H H' ∧ ∃ xs, H' Dl = some (.lst xs) ∧ IsAll K H' xs (givenC i f g)
theorem cv_turn {f : Nat → Bool} {g : Nat → Cel} {Dl : Addr} {i : Nat} {σ2 : L2.St} (p : Cv K H f g Dl i H') (hi : i < 50000) (ht : EvT t σ2 H (f i)) (he : f i = true → EvC K te σ2 H (g i)) :
    t σ2 H' fun b H3 => if b = true then te σ2 H3 fun y H4 => ∃ acc, H4 Dl = some (.lst acc) ∧ acc.length < sizeLine ∧ Cv K H f g Dl (i + 1) (upd H4 Dl (.lst (acc ++ [y]))) else Cv K H f g Dl (i + 1) H3 := by
  obtain ⟨p1, p2, xs, p3, p4⟩ := p
  refine ht H' p2 _ fun H3 e3 => ?_
  cases hf : f i with
  | true =>
    show te σ2 H3 fun y H4 => ∃ acc, H4 Dl = some (.lst acc) ∧ acc.length < sizeLine ∧ Cv K H f g Dl (i + 1) (upd H4 Dl (.lst (acc ++ [y])))
    refine he hf H3 (p2.trans e3) _ fun y H4 e4 iy => ⟨xs, e4 Dl _ (e3 Dl _ p3), sz_lt (by have := givenC_len i f g; have := pr_len p4; omega), p1, Ex.mut ((p2.trans e3).trans e4) p1, _, upd_same, ?_⟩
    rw [givenC_yes hf]
    have h4 := e4 Dl _ (e3 Dl _ p3)
    exact pr_app ((p4.up (e3.trans e4)).ut (ExT.upd h4)) (.cons (iy.ut (ExT.upd h4)) .nil)
  | false =>
    show Cv K H f g Dl (i + 1) H3
    refine ⟨p1, p2.trans e3, xs, e3 Dl _ p3, ?_⟩
    rw [givenC_no hf]
    exact p4.up e3
theorem en_lcR1 {ta : TA} {j : Nat} {vs : List Nat} {n : Int} (f : Nat → Bool) (g : Nat → Cel) (h : EvA ta σ H [.int n]) (hn : 0 ≤ n ∧ n ≤ 40000) (hw : ∀ x, wipe ((wipe σ vs).set j (some x)) vs = wipe σ vs)
    (ht : ∀ (i : Nat) H1, Ex H H1 → (i : Int) < n → EvT t ((wipe σ vs).set j (some (.int (i : Int)))) H1 (f i)) (he : ∀ (i : Nat) H1, Ex H H1 → (i : Int) < n → f i = true → EvC K te ((wipe σ vs).set j (some (.int (i : Int)))) H1 (g i)) :
    EvN K (tLc (iRng1 ta) (gName j) t te vs) σ H (givenC n.toNat f g) := fun H0 e Q q => h H0 e _ fun H1 e1 => ⟨n, rfl, by omega, by omega, fun Dl hD =>
  lc_range (lo := 0) (n := n.toNat) (Cv K H1 f g Dl) ⟨hD, Ex.new hD, [], upd_same, .nil⟩ (fun i H' hi p => by
    have e0 : (0 : Int) + (i : Int) = (i : Int) := Int.zero_add _
    show wipe ((wipe σ vs).set j (some (.int ((0 : Int) + (i : Int))))) vs = wipe σ vs ∧ t ((wipe σ vs).set j (some (.int ((0 : Int) + (i : Int))))) H' fun b H3 => if b = true then te ((wipe σ vs).set j (some (.int ((0 : Int) + (i : Int))))) H3 fun y H4 => ∃ acc, H4 Dl = some (.lst acc) ∧ acc.length < sizeLine ∧ Cv K H1 f g Dl (i + 1) (upd H4 Dl (.lst (acc ++ [y]))) else Cv K H1 f g Dl (i + 1) H3
    rw [e0]
    exact ⟨hw _, cv_turn p (by omega) (ht i H1 (e.trans e1) (by omega)) (fun hf => he i H1 (e.trans e1) (by omega) hf)⟩) (fun H' p => by
      obtain ⟨p1, p2, xs, p3, p4⟩ := p
      exact q Dl xs H' (fresh_back e1 p1) (e1.trans p2) p3 p4)⟩
/-- over a list of cells that stands; the target one name -/
theorem en_lcL {a : Addr} {xs : List V} {cs : List Cel} {j : Nat} {vs : List Nat} (f : Nat → Bool) (g : Nat → Cel) (h : Ev tl σ H (.ref a)) (hx : SqL K H a xs) (hc : IsAll K H xs cs) (hz : cs.length ≤ 40000) (hw : ∀ x, wipe ((wipe σ vs).set j (some x)) vs = wipe σ vs)
    (ht : ∀ (i : Nat) (x : V) (c : Cel) H1, Ex H H1 → cs[i]? = some c → Is K H1 x c → EvT t ((wipe σ vs).set j (some x)) H1 (f i)) (he : ∀ (i : Nat) (x : V) (c : Cel) H1, Ex H H1 → cs[i]? = some c → Is K H1 x c → f i = true → EvC K te ((wipe σ vs).set j (some x)) H1 (g i)) :
    EvN K (tLc (iList K tl) (gName j) t te vs) σ H (givenC cs.length f g) := fun H0 e Q q => h H0 e _ fun H1 e1 => ⟨a, rfl, ⟨xs, ex_l (e.trans e1) hx⟩, fun Dl hD =>
  lc_list (xs := xs) (Cv K H1 f g Dl) ⟨hD, Ex.new hD, [], upd_same, .nil⟩ (fun i H' _ p => ex_l ((e.trans e1).trans p.2.1) hx) (fun i x H' hi p => by
    obtain ⟨c, hci, hic⟩ := pr_get hc hi
    exact ⟨hw x, cv_turn p (by have := (List.getElem?_eq_some_iff.mp hci).1; omega) (ht i x c H1 (e.trans e1) hci (hic.up (e.trans e1))) (fun hf => he i x c H1 (e.trans e1) hci (hic.up (e.trans e1)) hf)⟩)
    (fun H' p => by
      obtain ⟨p1, p2, ys, p3, p4⟩ := p
      rw [pr_len hc] at p4
      exact q Dl ys H' (fresh_back e1 p1) (e1.trans p2) p3 p4)⟩
/-- over a new list of cells -/
theorem en_lcN {cs : List Cel} {j : Nat} {vs : List Nat} (f : Nat → Bool) (g : Nat → Cel) (h : EvN K tl σ H cs) (hz : cs.length ≤ 40000) (hw : ∀ x, wipe ((wipe σ vs).set j (some x)) vs = wipe σ vs)
    (ht : ∀ (i : Nat) (x : V) (c : Cel) H1, Ex H H1 → cs[i]? = some c → Is K H1 x c → EvT t ((wipe σ vs).set j (some x)) H1 (f i)) (he : ∀ (i : Nat) (x : V) (c : Cel) H1, Ex H H1 → cs[i]? = some c → Is K H1 x c → f i = true → EvC K te ((wipe σ vs).set j (some x)) H1 (g i)) :
    EvN K (tLc (iList K tl) (gName j) t te vs) σ H (givenC cs.length f g) := fun H0 e Q q => h H0 e _ fun a xs H1 ha e1 hx hc => ⟨a, rfl, ⟨xs, sq_of hx⟩, fun Dl hD =>
  lc_list (xs := xs) (Cv K H1 f g Dl) ⟨hD, Ex.new hD, [], upd_same, .nil⟩ (fun i H' _ p => sq_of (p.2.1 a _ hx)) (fun i x H' hi p => by
    obtain ⟨c, hci, hic⟩ := pr_get hc hi
    exact ⟨hw x, cv_turn p (by have := (List.getElem?_eq_some_iff.mp hci).1; omega) (ht i x c H1 (e.trans e1) hci hic) (fun hf => he i x c H1 (e.trans e1) hci hic hf)⟩)
    (fun H' p => by
      obtain ⟨p1, p2, ys, p3, p4⟩ := p
      rw [pr_len hc] at p4
      exact q Dl ys H' (fresh_back e1 p1) (e1.trans p2) p3 p4)⟩
/-- which are kept, by the cells themselves -/
theorem givenC_filter (cs : List Cel) (F : Cel → Bool) (d : Cel) : givenC cs.length (fun i => F (cs.getD i d)) (fun i => cs.getD i d) = cs.filter F := by
  unfold givenC
  have e : cs = (List.range cs.length).map fun i => cs.getD i d := by
    apply List.ext_getElem
    · simp
    · intro i h1 h2
      simp [List.getD_eq_getElem?_getD, List.getElem?_eq_getElem h1]
  conv => rhs; rw [e]
  rw [List.filter_map]
  rfl
theorem ev_lenN' {cs : List Cel} (ha : EvN K ta σ H cs) : Ev (tCB (rLenS K) (tCons ta tNil)) σ H (.int (cs.length : Nat)) := fun H1 e Q q =>
  ha H1 e _ fun p xs H2 _ e2 h2 i2 => ⟨p, xs, rfl, Or.inl (sq_of h2), by rw [pr_len i2]; exact q H2 e2⟩
/-- item of a list of cells that stands, of a new one -/
theorem ec_ixN {cs : List Cel} {i : Nat} (h : EvN K ta σ H cs) (hb : ∀ H1, Ex H H1 → Ev tb σ H1 (.int (i : Nat))) (hi : cs[i]? = some c) : EvC K (tOp (rIxL K) ta tb) σ H c := fun H1 e Q q =>
  h H1 e _ fun p xs H2 _ e2 h2 i2 => by
    obtain ⟨x, hx, ix⟩ := pr_get' i2 hi
    exact hb H2 (e.trans e2) H2 (Ex.refl H2) _ fun H3 e3 => ⟨p, xs, (i : Nat), x, rfl, rfl, sq_of (e3 _ _ h2), atI_nat hx, q x H3 (e2.trans e3) (ix.up e3)⟩
theorem ec_ixL {a : Addr} {xs : List V} {cs : List Cel} {i : Nat} (ha : Ev ta σ H (.ref a)) (hs : SqL K H a xs) (hc : IsAll K H xs cs) (hb : Ev tb σ H (.int (i : Nat))) (hi : cs[i]? = some c) : EvC K (tOp (rIxL K) ta tb) σ H c := fun H1 e Q q =>
  ha H1 e _ fun H2 e2 => hb H2 (e.trans e2) _ fun H3 e3 => by
    obtain ⟨x, hx, ix⟩ := pr_get' hc hi
    exact ⟨a, xs, (i : Nat), x, rfl, rfl, ex_l ((e.trans e2).trans e3) hs, atI_nat hx, q x H3 (e2.trans e3) (ix.up ((e.trans e2).trans e3))⟩
/-! statements -/
variable {D : Ends} {tz : TS}
theorem q_asgC {i : Nat} (h : EvC K te σ H c) (k : ∀ v H1, Ex H H1 → Is K H1 v c → tz D (σ.set i (some v)) H1) : tSeq (tAsg te (gName i)) tz D σ H := h H (Ex.refl H) _ k
theorem q_asgN {i : Nat} {cs : List Cel} (h : EvN K te σ H cs) (k : ∀ p xs H1, H p = none → Ex H H1 → H1 p = some (.lst xs) → IsAll K H1 xs cs → tz D (σ.set i (some (.ref p))) H1) : tSeq (tAsg te (gName i)) tz D σ H := h H (Ex.refl H) _ k
theorem s_asgC {i : Nat} (h : EvC K te σ H c) (k : ∀ v H1, Ex H H1 → Is K H1 v c → D.nx (σ.set i (some v)) H1) : tAsg te (gName i) D σ H := h H (Ex.refl H) _ k
theorem s_asgN {i : Nat} {cs : List Cel} (h : EvN K te σ H cs) (k : ∀ p xs H1, H p = none → Ex H H1 → H1 p = some (.lst xs) → IsAll K H1 xs cs → D.nx (σ.set i (some (.ref p))) H1) : tAsg te (gName i) D σ H := h H (Ex.refl H) _ k
theorem s_retC (h : EvC K te σ H c) (k : ∀ v H1, Ex H H1 → Is K H1 v c → D.rt v H1) : tRet te D σ H := h H (Ex.refl H) _ k
theorem s_retN {cs : List Cel} (h : EvN K te σ H cs) (k : ∀ p xs H1, H p = none → Ex H H1 → H1 p = some (.lst xs) → IsAll K H1 xs cs → D.rt (.ref p) H1) : tRet te D σ H := h H (Ex.refl H) _ k
/-! ### alike cells -/
theorem al_tup {xs : List V} {v u : V} {n : Nat} (hv : Is K H v (.t xs)) (hu : Is K H u (.t xs)) (hx : xs.all sc1 = true) (hl : xs.length ≤ 40000) : Al K H (n + 1) v u := by
  obtain ⟨a, rfl, ha⟩ := hv
  obtain ⟨b, rfl, hb⟩ := hu
  refine .inr ⟨a, b, xs, xs, rfl, rfl, .inr ⟨ha, hb⟩, rfl, hl, fun i x y h1 h2 => ?_⟩
  rw [h1] at h2
  cases h2
  exact al_sc (List.all_eq_true.mp hx x (List.mem_of_getElem? h1))
/-- an argument that is a cell -/
theorem ev_callC1 {sp : Sp} {E : XK} (ha : EvC K ta σ H c) (hs : ∀ v H1, Ex H H1 → Is K H1 v c → SpV sp [v] H1 z) : Ev (tCall sp [] E (tCons ta tNil)) σ H z := fun H1 e Q q =>
  ha H1 e _ fun v H2 e2 i => hs v H2 (e.trans e2) i H2 (Ex.refl H2) Q (fun H3 e3 => q H3 (e2.trans e3)) E
theorem ev_callC2 {sp : Sp} {E : XK} {c' : Cel} (ha : EvC K ta σ H c) (hb : ∀ H1, Ex H H1 → EvC K tb σ H1 c') (hs : ∀ v w H1, Ex H H1 → Is K H1 v c → Is K H1 w c' → SpV sp [v, w] H1 z) : Ev (tCall sp [] E (tCons ta (tCons tb tNil))) σ H z := fun H1 e Q q =>
  ha H1 e _ fun v H2 e2 i => hb H2 (e.trans e2) H2 (Ex.refl H2) _ fun w H3 e3 j => hs v w H3 ((e.trans e2).trans e3) (i.up e3) j H3 (Ex.refl H3) Q (fun H4 e4 => q H4 ((e2.trans e3).trans e4)) E
/-! ### cells as data -/
def datV : V → PyData
  | .non => .none
  | .bl b => .bool b
  | .int i => .int i
  | .str x => .str x
  | _ => .none
def okV : V → Bool
  | .non => true
  | .bl _ => true
  | .int _ => true
  | .str x => PyData.strOk x
  | _ => false
def datC : Cel → PyData
  | .v x => datV x
  | .t xs => .tuple (xs.map datV)
def okC : Cel → Bool
  | .v x => okV x
  | .t xs => xs.all okV
theorem dp_v (h : okV x = true) : Dp K H x (datV x) := by
  cases x <;> first | exact .non | exact .bl _ | exact .int _ | exact .str _ | cases h
theorem dp_vs : ∀ {xs : List V}, xs.all okV = true → DpAll K H xs (xs.map datV)
  | [], _ => .nil
  | x :: xs, h => by
    rw [List.all_cons, Bool.and_eq_true] at h
    exact .cons (dp_v h.1) (dp_vs h.2)
theorem dp_c (h : Is K H v c) (ok : okC c = true) : Dp K H v (datC c) := by
  cases c with
  | v x =>
    have e : v = x := h
    rw [e]
    exact dp_v ok
  | t xs =>
    obtain ⟨a, rfl, hs⟩ := h
    exact .tup hs (dp_vs ok)
theorem dp_cs : ∀ {xs : List V} {cs : List Cel}, IsAll K H xs cs → cs.all okC = true → DpAll K H xs (cs.map datC)
  | _, [], h, _ => by cases h; exact .nil
  | _, c :: cs, h, ok => by
    cases h with
    | cons r t =>
      rw [List.all_cons, Bool.and_eq_true] at ok
      exact .cons (dp_c r ok.1) (dp_cs t ok.2)
theorem lay_v (h : okV x = true) : (datV x).canLay0 = true ∧ (datV x).depth = 0 := by
  cases x <;> first | exact ⟨rfl, rfl⟩ | exact ⟨h, rfl⟩ | cases h
theorem lay_vs : ∀ {xs : List V}, xs.all okV = true → PyData.canLayAll0 (xs.map datV) = true ∧ PyData.depthAll (xs.map datV) = 0
  | [], _ => ⟨rfl, rfl⟩
  | x :: xs, h => by
    rw [List.all_cons, Bool.and_eq_true] at h
    obtain ⟨a1, a2⟩ := lay_v h.1
    obtain ⟨b1, b2⟩ := lay_vs h.2
    rw [List.map_cons]
    constructor
    · show (PyData.canLay0 (datV x) && PyData.canLayAll0 (xs.map datV)) = true
      rw [a1, b1]
      rfl
    · show max (PyData.depth (datV x)) (PyData.depthAll (xs.map datV)) = 0
      rw [a2, b2]
      rfl
theorem lay_c (h : okC c = true) : (datC c).canLay0 = true ∧ (datC c).depth ≤ 1 := by
  cases c with
  | v x =>
    obtain ⟨a1, a2⟩ := lay_v h
    exact ⟨a1, by show (datV x).depth ≤ 1; rw [a2]; omega⟩
  | t xs =>
    obtain ⟨a1, a2⟩ := lay_vs h
    exact ⟨a1, by show PyData.depthAll (xs.map datV) + 1 ≤ 1; rw [a2]; omega⟩
theorem lay_cs : ∀ {cs : List Cel}, cs.all okC = true → PyData.canLayAll0 (cs.map datC) = true ∧ PyData.depthAll (cs.map datC) ≤ 1
  | [], _ => ⟨rfl, by show 0 ≤ 1; omega⟩
  | c :: cs, h => by
    rw [List.all_cons, Bool.and_eq_true] at h
    obtain ⟨a1, a2⟩ := lay_c h.1
    obtain ⟨b1, b2⟩ := lay_cs h.2
    rw [List.map_cons]
    constructor
    · show (PyData.canLay0 (datC c) && PyData.canLayAll0 (cs.map datC)) = true
      rw [a1, b1]
      rfl
    · show max (PyData.depth (datC c)) (PyData.depthAll (cs.map datC)) ≤ 1
      omega
theorem shaped_cs {cs : List Cel} (h : cs.all okC = true) : SeqAt.shaped (.list (cs.map datC)) = true := by
  obtain ⟨b1, b2⟩ := lay_cs h
  unfold SeqAt.shaped
  rw [Bool.and_eq_true]
  refine ⟨b1, decide_eq_true ?_⟩
  show PyData.depthAll (cs.map datC) + 1 ≤ 64
  omega
theorem eqv_nil (cs : List Cel) : PyData.eqv (.list (cs.map datC)) (.list []) = cs.isEmpty := by
  cases cs with
  | nil => rfl
  | cons c cs => rfl
theorem ev_nilN {cs : List Cel} (ha : EvN K ta σ H cs) (ok : cs.all okC = true) : Ev (tOp (rEqD K) ta (tLst tNil)) σ H (.bl cs.isEmpty) := fun H1 e Q q =>
  ha H1 e _ fun p xs H2 _ e2 h2 i2 => ⟨Nat.zero_le _, fun l hl => ⟨_, _, .lst (sq_of (by rw [upd_ne (ne_of_none h2 hl)]; exact h2)) (dp_cs (i2.up (Ex.new hl)) ok), .lst (sq_of upd_same) .nil, shaped_cs ok, rfl, by
    rw [eqv_nil]
    exact q _ (e2.trans (Ex.new hl))⟩⟩
theorem ev_nnilN {cs : List Cel} (ha : EvN K ta σ H cs) (ok : cs.all okC = true) : Ev (tOp (rNeD K) ta (tLst tNil)) σ H (.bl (!cs.isEmpty)) := fun H1 e Q q =>
  ha H1 e _ fun p xs H2 _ e2 h2 i2 => ⟨Nat.zero_le _, fun l hl => ⟨_, _, .lst (sq_of (by rw [upd_ne (ne_of_none h2 hl)]; exact h2)) (dp_cs (i2.up (Ex.new hl)) ok), .lst (sq_of upd_same) .nil, shaped_cs ok, rfl, by
    rw [eqv_nil]
    exact q _ (e2.trans (Ex.new hl))⟩⟩
theorem ev_nilL {a : Addr} {xs : List V} {cs : List Cel} (ha : Ev ta σ H (.ref a)) (hs : SqL K H a xs) (hc : IsAll K H xs cs) (ok : cs.all okC = true) : Ev (tOp (rEqD K) ta (tLst tNil)) σ H (.bl cs.isEmpty) := fun H1 e Q q =>
  ha H1 e _ fun H2 e2 => ⟨Nat.zero_le _, fun l hl => ⟨_, _, .lst (ex_l ((e.trans e2).trans (Ex.new hl)) hs) (dp_cs (hc.up ((e.trans e2).trans (Ex.new hl))) ok), .lst (sq_of upd_same) .nil, shaped_cs ok, rfl, by
    rw [eqv_nil]
    exact q _ (e2.trans (Ex.new hl))⟩⟩
theorem ev_nnilL {a : Addr} {xs : List V} {cs : List Cel} (ha : Ev ta σ H (.ref a)) (hs : SqL K H a xs) (hc : IsAll K H xs cs) (ok : cs.all okC = true) : Ev (tOp (rNeD K) ta (tLst tNil)) σ H (.bl (!cs.isEmpty)) := fun H1 e Q q =>
  ha H1 e _ fun H2 e2 => ⟨Nat.zero_le _, fun l hl => ⟨_, _, .lst (ex_l ((e.trans e2).trans (Ex.new hl)) hs) (dp_cs (hc.up ((e.trans e2).trans (Ex.new hl))) ok), .lst (sq_of upd_same) .nil, shaped_cs ok, rfl, by
    rw [eqv_nil]
    exact q _ (e2.trans (Ex.new hl))⟩⟩
theorem txt_ok (p : List Bool) : PyData.strOk (txt p) = true := by
  show ((p.map sg).toArray).all (· < 0x110000) = true
  rw [List.all_toArray, List.all_eq_true]
  intro c hc
  obtain ⟨b, _, rfl⟩ := List.mem_map.mp hc
  cases b <;> decide
/-- max of a new list of whole numbers -/
theorem ev_maxN {ns : List Int} {m : Int} (ha : EvL ta σ H (ns.map V.int)) (hm : m ∈ ns) (hle : ∀ y ∈ ns, y ≤ m) : Ev (tCB (rMax K) (tCons ta tNil)) σ H (.int m) :=
  ev_cbL ha fun p H1 h1 e1 H2 e2 Q q => ⟨p, ns, rfl, sq_of (e2 _ _ h1), List.length_pos_of_mem hm, fun m' h1' h2' => by
    have : m' = m := Int.le_antisymm (hle _ h1') (h2' _ hm)
    rw [this]
    exact q H2 (Ex.refl H2)⟩
end
def cRow (r : Row) : Cel := .t [oV r.1, .int (r.2.1 : Nat), .int (r.2.2 : Nat)]
theorem cRow_ok (r : Row) : okC (cRow r) = true := by
  obtain ⟨o, a, b⟩ := r
  cases o <;> rfl
def spWorst (K : PySem.W.Frag) : Sp := fun vs H Q _ => ∃ (p q : List Bool) (l : Bool), vs = [.str (txt p), .str (txt q), .bl l] ∧ (0 < p.length ∧ p.length ≤ 100) ∧ (0 < q.length ∧ q.length ≤ 100) ∧ RetC K (cRow (worst p q l)) H Q
end Bm
namespace Bm
open PySem PySem.Spec PyProof.Rows L2 Evl
/-! ### held against each other -/
abbrev R3 := Nat × Nat × Option Nat
def r0 : R3 := (0, 1, none)
def bett (a b : R3) : Bool := decide (a.1 * b.2.1 ≤ b.1 * a.2.1) && (decide (a.2.2.getD 0 ≤ b.2.2.getD 0) && (decide (a.1 * b.2.1 < b.1 * a.2.1) || decide (a.2.2.getD 0 < b.2.2.getD 0)))
def sure (rs : List R3) : List Nat := (List.range rs.length).filter fun k => (rs.getD k r0).2.2.isSome
def frontL (rs : List R3) : List Nat := (sure rs).filter fun k => ((sure rs).filter fun j => bett (rs.getD j r0) (rs.getD k r0)).isEmpty
theorem bett_iff (a b : R3) : bett a b = true ↔ a.1 * b.2.1 ≤ b.1 * a.2.1 ∧ a.2.2.getD 0 ≤ b.2.2.getD 0 ∧ (a.1 * b.2.1 < b.1 * a.2.1 ∨ a.2.2.getD 0 < b.2.2.getD 0) := by
  unfold bett
  simp only [Bool.and_eq_true, Bool.or_eq_true, decide_eq_true_eq]
theorem bett_irr (a : R3) : bett a a = false := by
  cases h : bett a a with
  | false => rfl
  | true =>
    obtain ⟨_, _, h3⟩ := (bett_iff a a).mp h
    omega
theorem bett_trans {a b c : R3} (ha : 0 < a.2.1) (hb : 0 < b.2.1) (hc : 0 < c.2.1) (h1 : bett a b = true) (h2 : bett b c = true) : bett a c = true := by
  obtain ⟨a1, n, w1⟩ := a
  obtain ⟨a2, m, w2⟩ := b
  obtain ⟨a3, k, w3⟩ := c
  obtain ⟨p1, p2, p3⟩ := (bett_iff _ _).mp h1
  obtain ⟨q1, q2, q3⟩ := (bett_iff _ _).mp h2
  dsimp only at *
  have e1 : a1 * m * k ≤ a2 * n * k := Nat.mul_le_mul_right k p1
  have e2 : a2 * k * n ≤ a3 * m * n := Nat.mul_le_mul_right n q1
  have c1 : a1 * m * k = (a1 * k) * m := by rw [Nat.mul_assoc, Nat.mul_comm m k, ← Nat.mul_assoc]
  have c2 : a2 * n * k = a2 * k * n := by rw [Nat.mul_assoc, Nat.mul_comm n k, ← Nat.mul_assoc]
  have c3 : a3 * m * n = (a3 * n) * m := by rw [Nat.mul_assoc, Nat.mul_comm m n, ← Nat.mul_assoc]
  have e3 : (a1 * k) * m ≤ (a3 * n) * m := by omega
  refine (bett_iff _ _).mpr ⟨Nat.le_of_mul_le_mul_right e3 hb, (by show w1.getD 0 ≤ w3.getD 0; omega), ?_⟩
  dsimp only
  rcases p3 with p3 | p3
  · left
    have : a1 * m * k < a2 * n * k := Nat.mul_lt_mul_of_pos_right p3 hc
    have e4 : (a1 * k) * m < (a3 * n) * m := by omega
    exact Nat.lt_of_mul_lt_mul_right e4
  · right
    omega
theorem mem_sure {rs : List R3} {k : Nat} : k ∈ sure rs ↔ k < rs.length ∧ (rs.getD k r0).2.2.isSome = true := by
  unfold sure
  rw [List.mem_filter, List.mem_range]
theorem filter_lt {α : Type} {l : List α} {f g : α → Bool} (h : ∀ x ∈ l, f x = true → g x = true) {x : α} (hx : x ∈ l) (h1 : f x = false) (h2 : g x = true) : (l.filter f).length < (l.filter g).length := by
  induction l with
  | nil => cases hx
  | cons a l ih =>
    have hle : (l.filter f).length ≤ (l.filter g).length := by
      clear ih hx
      induction l with
      | nil => exact Nat.le_refl _
      | cons b l ih2 =>
        have := ih2 (fun x hx => h x (by rcases List.mem_cons.mp hx with rfl | hx <;> simp [*]))
        have hb := h b (by simp)
        rw [List.filter_cons, List.filter_cons]
        by_cases c : f b = true
        · rw [if_pos c, if_pos (hb c)]
          simp
          exact this
        · rw [if_neg c]
          split
          · simp
            omega
          · exact this
    rw [List.filter_cons, List.filter_cons]
    rcases List.mem_cons.mp hx with rfl | hx
    · rw [if_neg (by rw [h1]; decide), if_pos h2]
      simp
      omega
    · have := ih (fun x hx => h x (List.mem_cons_of_mem _ hx)) hx
      by_cases c : f a = true
      · rw [if_pos c, if_pos (h a (by simp) c)]
        simp
        exact this
      · rw [if_neg c]
        split
        · simp
          omega
        · exact this
/-- of each other sure one a told one is better -/
theorem front_dom {rs : List R3} (hpos : ∀ k, k < rs.length → 0 < (rs.getD k r0).2.1) : ∀ (n k : Nat), ((sure rs).filter fun j => bett (rs.getD j r0) (rs.getD k r0)).length ≤ n → k ∈ sure rs → k ∉ frontL rs → ∃ j ∈ frontL rs, bett (rs.getD j r0) (rs.getD k r0) = true
  | 0, k, hn, hk, hf => by
    refine absurd (List.mem_filter.mpr ⟨hk, ?_⟩) hf
    have : ((sure rs).filter fun j => bett (rs.getD j r0) (rs.getD k r0)) = [] := List.eq_nil_of_length_eq_zero (by omega)
    rw [this]
    rfl
  | n + 1, k, hn, hk, hf => by
    cases e : (sure rs).filter fun j => bett (rs.getD j r0) (rs.getD k r0) with
    | nil =>
      refine absurd (List.mem_filter.mpr ⟨hk, ?_⟩) hf
      rw [e]
      rfl
    | cons j js =>
      have hj : j ∈ (sure rs).filter fun j => bett (rs.getD j r0) (rs.getD k r0) := by rw [e]; simp
      obtain ⟨hj1, hj2⟩ := List.mem_filter.mp hj
      by_cases hjf : j ∈ frontL rs
      · exact ⟨j, hjf, hj2⟩
      · have pj := hpos j (mem_sure.mp hj1).1
        have pk := hpos k (mem_sure.mp hk).1
        have hlt := filter_lt (l := sure rs) (f := fun i => bett (rs.getD i r0) (rs.getD j r0)) (g := fun i => bett (rs.getD i r0) (rs.getD k r0)) (fun i hi h => bett_trans (hpos i (mem_sure.mp hi).1) pj pk h hj2) hj1 (bett_irr _) hj2
        obtain ⟨i, hi, hib⟩ := front_dom hpos n j (by omega) hj1 hjf
        exact ⟨i, hi, bett_trans (hpos i (mem_sure.mp (List.mem_filter.mp hi).1).1) pj pk hib hj2⟩
def cR (r : R3) : Cel := .t [.int (r.1 : Nat), .int (r.2.1 : Nat), oV r.2.2]
def rowOf (p : List Bool) : R3 := ((onesV p).length, p.length, (worst p p false).1)
def natsV (ks : List Nat) : List V := ks.map fun k => V.int (k : Nat)
def spBetter (K : PySem.W.Frag) : Sp := fun vs H Q _ => ∃ (v u : V) (r s : R3), vs = [v, u] ∧ Is K H v (cR r) ∧ Is K H u (cR s) ∧ (r.2.2.isSome = true ∧ s.2.2.isSome = true) ∧ (r.1 ≤ 1000 ∧ s.1 ≤ 1000) ∧ RetV (.bl (bett r s)) H Q
theorem oV_get {o : Option Nat} (h : o.isSome = true) : oV o = .int (o.getD 0 : Nat) := by
  cases o with
  | none => cases h
  | some m => rfl
section
variable {K : PySem.W.Frag} {σ : L2.St} {H : Hp} {ta tb te tl : TE} {c : Cel} {D : Ends} {tz : TS}
theorem q_appC {l : Addr} {xs : List V} (hl : H l = some (.lst xs)) (ha : Ev ta σ H (.ref l)) (h : EvC K te σ H c) (hz : xs.length < 100000) (k : ∀ v H1, Ex H H1 → Is K H1 v c → tz D σ (upd H1 l (.lst (xs ++ [v])))) :
    tSeq (tDrop (tBM K "list" rAppend ta (tCons te tNil))) tz D σ H := ha H (Ex.refl H) _ fun H1 e1 =>
  ⟨Or.inl ⟨rfl, xs, sq_of (e1 l _ hl)⟩, h H1 e1 _ fun v H2 e2 i2 => ⟨l, xs, v, rfl, rfl, e2 l _ (e1 l _ hl), sz_lt hz, k v H2 (e1.trans e2) i2⟩⟩
theorem s_appC {l : Addr} {xs : List V} (hl : H l = some (.lst xs)) (ha : Ev ta σ H (.ref l)) (h : EvC K te σ H c) (hz : xs.length < 100000) (k : ∀ v H1, Ex H H1 → Is K H1 v c → D.nx σ (upd H1 l (.lst (xs ++ [v])))) :
    tDrop (tBM K "list" rAppend ta (tCons te tNil)) D σ H := ha H (Ex.refl H) _ fun H1 e1 =>
  ⟨Or.inl ⟨rfl, xs, sq_of (e1 l _ hl)⟩, h H1 e1 _ fun v H2 e2 i2 => ⟨l, xs, v, rfl, rfl, e2 l _ (e1 l _ hl), sz_lt hz, k v H2 (e1.trans e2) i2⟩⟩
/-- a new list, of cells, that may stand elsewhere too -/
theorem s_forEL {ta : TA} {a : Addr} {xs : List V} {g : TG} {tu : TS} (h : EvA ta σ H [.ref a]) (hx : SqL K H a xs) (Pv : Nat → L2.St → Hp → Prop) (h0 : ∀ H1, Ex H H1 → Pv 0 σ H1) (hG : ∀ i σ' H', i ≤ xs.length → Pv i σ' H' → SqL K H' a xs)
    (hs : ∀ i T x σ' H', xs[i]? = some x → Pv i σ' H' → H' T = none → g (.ref T) σ' (upd H' T (.tup [.int (i : Nat), x])) fun σ2 H2 => tu { D with nx := Pv (i + 1), ct := Pv (i + 1), bk := D.nx } σ2 H2)
    (hd : ∀ σ' H', Pv xs.length σ' H' → D.nx σ' H') : tFor (iEnum K ta) g tu D σ H :=
  h H (Ex.refl H) _ fun H1 e => ⟨a, xs, rfl, ex_l e hx, for_it (walk_enum (xs := xs)) Pv (h0 H1 e) hG (fun i v σ' H' H2 _ p y => by
    obtain ⟨T, x, z, rfl, hT, rfl, hx1, hx2⟩ := y
    cases hx1
    exact hs i T z σ' H' hx2 p hT) hd⟩
/-- list(xs) -/
theorem en_listL {a : Addr} {xs : List V} {cs : List Cel} (ha : Ev ta σ H (.ref a)) (hs : SqL K H a xs) (hi : IsAll K H xs cs) : EvN K (tCB (rListS K) (tCons ta tNil)) σ H cs := fun H1 e Q q =>
  ha H1 e _ fun H2 e2 => ⟨a, xs, rfl, Or.inl (ex_l (e.trans e2) hs), fun l hl => q l xs _ (fresh_back e2 hl) (e2.trans (Ex.new hl)) upd_same ((hi.up (e.trans e2)).up (Ex.new hl))⟩
/-- two lists of the same cells -/
theorem al_list {cs : List Cel} {a b : Addr} {xs ys : List V} {n : Nat} (ha : SqL K H a xs) (hx : IsAll K H xs cs) (hb : SqL K H b ys) (hy : IsAll K H ys cs) (hl : cs.length ≤ 40000) (hc : ∀ c ∈ cs, ∀ x y, Is K H x c → Is K H y c → Al K H n x y) : Al K H (n + 1) (.ref a) (.ref b) := by
  refine .inr ⟨a, b, xs, ys, rfl, rfl, .inl ⟨ha, hb⟩, by rw [pr_len hx, pr_len hy], by rw [pr_len hx]; exact hl, fun i x y h1 h2 => ?_⟩
  obtain ⟨c, c1, c2⟩ := pr_get hx h1
  obtain ⟨c', c3, c4⟩ := pr_get hy h2
  rw [c1] at c3
  cases c3
  exact hc c (List.mem_of_getElem? c1) x y c2 c4
theorem DD.weaken {Da : Addr} {G G' H : Hp} (d : DD Da G' H) (e : Ex G G') (hn : G Da = none) : DD Da G H := ⟨hn, e.trans d.ex, d.at_⟩
end
end Bm
namespace Bm
open PySem PySem.Spec PyProof.Rows L2 Evl
/-! ### typed data -/
theorem toD_inj {α : Type} [DecidableEq α] [PySem.W.Datum α] {a b : α} (h : PySem.W.Datum.toD a = PySem.W.Datum.toD b) : a = b := by
  have e := PySem.W.Datum.eqv a b
  rw [h, PySem.W.Datum.eqv b b, decide_eq_true rfl] at e
  exact of_decide_eq_true e.symm
def cSI (p : PySem.Str × Int) : Cel := .t [.str p.1, .int p.2]
def cIS (p : Int × PySem.Str) : Cel := .t [.int p.1, .str p.2]
section
variable {K : PySem.W.Frag} {H : Hp} {v : V}
theorem dp_SI {p : PySem.Str × Int} (h : Is K H v (cSI p)) : Dp K H v (PySem.W.Datum.toD p) := by
  obtain ⟨a, rfl, hs⟩ := h
  exact .tup hs (.cons (.str _) (.cons (.int _) .nil))
theorem dp_IS {p : Int × PySem.Str} (h : Is K H v (cIS p)) : Dp K H v (PySem.W.Datum.toD p) := by
  obtain ⟨a, rfl, hs⟩ := h
  exact .tup hs (.cons (.int _) (.cons (.str _) .nil))
theorem dpAll_of {α : Type} [DecidableEq α] [PySem.W.Datum α] {c : α → Cel} (hc : ∀ {v : V} {p : α}, Is K H v (c p) → Dp K H v (PySem.W.Datum.toD p)) : ∀ {xs : List V} {ps : List α}, IsAll K H xs (ps.map c) → DpAll K H xs (ps.map PySem.W.Datum.toD)
  | _, [], h => by cases h; exact .nil
  | _, p :: ps, h => by
    cases h with
    | cons r t => exact .cons (hc r) (dpAll_of hc t)
/-- min of a list of (text, number) -/
def rMinSI (K : PySem.W.Frag) : List V → Hp → VK → Prop := fun vs H Q => ∃ (a : Addr) (xs : List V) (x : PySem.Str × Int) (ys : List (PySem.Str × Int)), vs = [.ref a] ∧ SqL K H a xs ∧ IsAll K H xs ((x :: ys).map cSI) ∧ ∀ v, Is K H v (cSI (PySem.W.minOf x ys)) → Q v H
end
theorem cr_minD {X : Cx} {j : Nat} (hc : X.calm = true) (hr : Room j X.A) : CallR X (.builtin "min") (rMinSI X.K) := by
  intro pins s σ H vs us Q I r h
  obtain ⟨a, xs, x, ys, rfl, hs, hi, q⟩ := h
  obtain ⟨its, rv, hl, _⟩ := I.list hs
  rw [Vals.ref1 r]
  obtain ⟨as, ra⟩ := Dp.readsAll I _ xs its (dpAll_of (c := cSI) dp_SI hi) rv
  have hu : X.A.units + 1 + PySem.W.Datum.depth (PySem.Str × Int) < cLine := by
    have := hr.un
    show X.A.units + 1 + 1 < cLine
    omega
  refine PySem.W.min_list_datum (x := x) (xs := ys) (I.ok.hd hc) hl.isList ⟨as, by simpa using ra⟩ hu fun i v h' tk hv hh hk => ?_
  have hv' : its[i]? = some v := by simpa using hv
  have hix : i < xs.length := by
    rw [rv.length]
    exact (List.getElem?_eq_some_iff.mp hv').1
  obtain ⟨u, hu1, hu2⟩ := rv.get (List.getElem?_eq_getElem hix)
  rw [hv'] at hu1
  cases hu1
  obtain ⟨c, hc1, hc2⟩ := pr_get hi (List.getElem?_eq_getElem hix)
  rw [List.getElem?_map] at hc1
  cases e : (x :: ys)[i]? with
  | none => rw [e] at hc1; cases hc1
  | some z =>
    rw [e] at hc1
    cases hc1
    obtain ⟨as1, r1⟩ := Dp.reads I _ xs[i] v (dp_SI hc2) hu2
    obtain ⟨as2, r2⟩ := hh
    have ez := toD_inj (reads_det (h := s.heap) (h' := h') (fun b o e _ => hk b o e) r1 r2).1
    rw [← ez] at hc2
    exact ⟨xs[i], H, I.kept (t' := tk) hk, hu2, q _ hc2⟩
section
variable {K : PySem.W.Frag} {σ : L2.St} {H : Hp} {ta tb : TE}
theorem ec_minN {x : PySem.Str × Int} {ys : List (PySem.Str × Int)} (ha : EvN K ta σ H ((x :: ys).map cSI)) : EvC K (tCB (rMinSI K) (tCons ta tNil)) σ H (cSI (PySem.W.minOf x ys)) := fun H1 e Q q =>
  ha H1 e _ fun p xs H2 hp e2 h2 i2 => ⟨p, xs, x, ys, rfl, sq_of h2, i2, fun v iv => q v H2 e2 iv⟩
end
/-! ### sorted -/
section
variable {α : Type} [DecidableEq α] [PySem.W.DatumOrd α]
def leG (a b : α) : Bool := !PySem.W.DatumOrd.lt b a
def rSortG (c : α → Cel) (K : PySem.W.Frag) : List V → Hp → VK → Prop := fun vs H Q => ∃ (a : Addr) (xs : List V) (ps : List α), vs = [.ref a] ∧ SqL K H a xs ∧ IsAll K H xs (ps.map c) ∧ ps.length ≤ 100000 ∧
  ∀ (p : Addr) (ys : List V), H p = none → IsAll K H ys ((ps.mergeSort leG).map c) → Q (.ref p) (upd H p (.lst ys))
theorem vals_each {c : α → Cel} {K : PySem.W.Frag} {H : Hp} : ∀ {out : List Value} {ps : List α}, PySem.W.EachIs (fun (u : Value) (p : α) => ∃ x, RelV x u ∧ Is K H x (c p)) out ps → ∃ ys, Vals ys out ∧ IsAll K H ys (ps.map c)
  | _, _, .nil => ⟨[], .nil, .nil⟩
  | _, _, .cons ⟨x, h1, h2⟩ t => by
    obtain ⟨ys, a, b⟩ := vals_each t
    exact ⟨x :: ys, .cons h1 a, .cons h2 b⟩
theorem each_of {c : α → Cel} {K : PySem.W.Frag} {H : Hp} : ∀ {xs : List V} {us : List Value} {ps : List α}, Vals xs us → IsAll K H xs (ps.map c) → PySem.W.EachIs (fun (u : Value) (p : α) => ∃ x, RelV x u ∧ Is K H x (c p)) us ps
  | _, _, [], .nil, _ => .nil
  | _, _, _ :: _, .nil, h => by cases h
  | _, _, [], .cons _ _, h => by cases h
  | _, _, p :: ps, .cons r t, h => by
    cases h with
    | cons a b => exact .cons ⟨_, r, a⟩ (each_of t b)
theorem cr_sortedG {X : Cx} {j : Nat} (c : α → Cel) (hcd : ∀ {K : PySem.W.Frag} {H : Hp} {v : V} {p : α}, Is K H v (c p) → Dp K H v (PySem.W.Datum.toD p)) (hk : ∀ ps : List α, PySem.W.Sortable (ps.map PySem.W.Datum.toD)) (hd : PySem.W.Datum.depth α ≤ 1) (hr : Room j X.A) : CallR X (.builtin "sorted") (rSortG c X.K) := by
  intro pins s σ H vs us Q I r h
  obtain ⟨a, xs, ps, rfl, hs, hi, hz, q⟩ := h
  obtain ⟨its, rv, hl, _⟩ := I.list hs
  rw [Vals.ref1 r]
  have e1 := each_of (c := c) rv hi
  have e2 : PySem.W.EachIs (fun v b => ∃ as, Reads s.heap v (PySem.W.Datum.toD b) as) its ps := e1.mono fun u p ⟨x, h1, h2⟩ => Dp.reads I _ x u (hcd h2) h1
  have hle : PySem.W.dataLe false (PySem.W.Datum.toD (α := α)) = leG := by
    rw [PySem.W.dataLe_eq]
    funext a b
    show (!PySem.W.dataLt (PySem.W.Datum.toD b) (PySem.W.Datum.toD a)) = leG a b
    unfold leG
    rw [PySem.W.DatumOrd.lt_eq]
  refine PySem.W.sorted_data (enc := PySem.W.Datum.toD) hl.isList e1 e2 (PySem.W.AllAlike.of fun a b => PySem.W.DatumOrd.alike a b) (hk ps) (sz_of hz) (fun b _ => ?_) fun out ho eo => ?_
  · have := hr.un
    have h1 : (PySem.W.Datum.toD b).depth ≤ _ := PySem.W.Datum.depth_le b
    omega
  · rw [hle] at eo
    obtain ⟨ys, hy1, hy2⟩ := vals_each (K := X.K) (H := H) eo
    obtain ⟨ep, he'⟩ := PyProof.Rows.sortedAll_at s.heap its out.toArray
    have hlen : ys.length ≤ sizeLine := by
      rw [hy1.length, ho]
      exact sz_of hz
    exact ⟨.ref _, upd H (s.heap.objs.size + 1) (.lst ys), I.laid (t' := s.toks) (fun _ _ => PyProof.Rows.sortedAll_old) (Nat.le_succ _) ⟨hlen, out, ep, hy1, he'⟩, rfl, q _ ys (I.hok.fresh (Nat.le_succ _)) hy2⟩
theorem en_sortN {c : α → Cel} {K : PySem.W.Frag} {σ : L2.St} {H : Hp} {ta : TE} {ps : List α} (ha : EvN K ta σ H (ps.map c)) (hz : ps.length ≤ 100000) : EvN K (tCB (rSortG c K) (tCons ta tNil)) σ H ((ps.mergeSort leG).map c) := fun H1 e Q q =>
  ha H1 e _ fun p xs H2 hp e2 h2 i2 => ⟨p, xs, ps, rfl, sq_of h2, i2, hz, fun l ys hl iy => q l ys _ (fresh_back e2 hl) (e2.trans (Ex.new hl)) upd_same (iy.up (Ex.new hl))⟩
theorem en_sortL {c : α → Cel} {K : PySem.W.Frag} {σ : L2.St} {H : Hp} {ta : TE} {ps : List α} {a : Addr} {xs : List V} (ha : Ev ta σ H (.ref a)) (hs : SqL K H a xs) (hi : IsAll K H xs (ps.map c)) (hz : ps.length ≤ 100000) : EvN K (tCB (rSortG c K) (tCons ta tNil)) σ H ((ps.mergeSort leG).map c) := fun H1 e Q q =>
  ha H1 e _ fun H2 e2 => ⟨a, xs, ps, rfl, ex_l (e.trans e2) hs, hi.up (e.trans e2), hz, fun l ys hl iy => q l ys _ (fresh_back e2 hl) (e2.trans (Ex.new hl)) upd_same (iy.up (Ex.new hl))⟩
end
def cS (z : PySem.Str) : Cel := .v (.str z)
theorem cr_sortedD {X : Cx} {j : Nat} (hr : Room j X.A) : CallR X (.builtin "sorted") (rSortG cIS X.K) := cr_sortedG cIS dp_IS (fun _ => PySem.W.Sortable.tuples fun _ => ⟨_, _, rfl⟩) (Nat.le_refl _) hr
theorem cr_sortedT {X : Cx} {j : Nat} (hr : Room j X.A) : CallR X (.builtin "sorted") (rSortG cS X.K) :=
  cr_sortedG cS (fun {K H v p} h => by
    have e : v = .str p := h
    rw [e]
    exact .str p) (fun _ => PySem.W.Sortable.others fun b => ⟨(fun h => by cases h), (fun xs h => by cases h)⟩) (Nat.zero_le _) hr
end Bm
namespace Bm
open PySem PySem.Spec PyProof.Rows L2 Evl
/-! ### turning -/
def turn (p : List Bool) (k : Nat) : List Bool := p.drop k ++ p.take k
theorem turn_len (p : List Bool) (k : Nat) : (turn p k).length = p.length := by
  unfold turn
  simp
  omega
theorem turn_getD {p : List Bool} {k i : Nat} (hk : k < p.length) (hi : i < p.length) : (turn p k).getD i false = p.getD ((i + k) % p.length) false := by
  unfold turn
  rw [List.getD_eq_getElem?_getD, List.getD_eq_getElem?_getD]
  congr 1
  by_cases h : i + k < p.length
  · rw [Nat.mod_eq_of_lt h, List.getElem?_append_left (by simp; omega), List.getElem?_drop, Nat.add_comm k i]
  · have e : (i + k) % p.length = i + k - p.length := by
      rw [Nat.mod_eq_sub_mod (by omega), Nat.mod_eq_of_lt (by omega)]
    rw [e, List.getElem?_append_right (by simp; omega), List.getElem?_take, if_pos (by simp; omega)]
    congr 1
    simp
    omega
theorem turn_is {p : List Bool} {k : Nat} (hk : k < p.length) : (List.range p.length).map (fun i => p.getD ((i + k) % p.length) false) = turn p k := by
  apply List.ext_getElem
  · simp [turn_len]
  · intro i h1 h2
    have hi : i < p.length := by simpa using h1
    have := turn_getD hk hi
    rw [List.getD_eq_getElem?_getD, List.getElem?_eq_getElem h2] at this
    simp
    rw [show (turn p k)[i] = ((some (turn p k)[i]).getD false) from rfl, this]
    rw [List.getD_eq_getElem?_getD]
abbrev codes (z : PySem.Str) : List Nat := z.cps.toList
theorem codes_inj {a b : PySem.Str} (h : codes a = codes b) : a = b := str_ext h
/-- the least of the turned ones, the first of them -/
structure IsLeast (p : List Bool) (m : Nat) : Prop where
  lt : m < p.length
  le : ∀ i, i < p.length → ¬ codes (txt (turn p i)) < codes (txt (turn p m))
  fst : ∀ i, i < m → txt (turn p i) ≠ txt (turn p m)
theorem IsLeast.one {p : List Bool} {m n : Nat} (a : IsLeast p m) (b : IsLeast p n) : m = n := by
  have key : ∀ {m n : Nat}, IsLeast p m → IsLeast p n → ¬ m < n := fun {m n} a b h =>
    b.fst m h (codes_inj (List.le_antisymm (List.not_lt.mp (a.le n b.lt)) (List.not_lt.mp (b.le m a.lt))))
  have h1 := key a b
  have h2 := key b a
  omega
theorem ltSI (a b : PySem.Str × Int) : PySem.W.DatumOrd.lt a b = (if a.1 = b.1 then decide (a.2 < b.2) else decide (codes a.1 < codes b.1)) := rfl
theorem ltSI_trans {a b c : PySem.Str × Int} (h1 : PySem.W.DatumOrd.lt a b = true) (h2 : PySem.W.DatumOrd.lt b c = true) : PySem.W.DatumOrd.lt a c = true := by
  rw [ltSI] at h1 h2 ⊢
  by_cases e1 : a.1 = b.1
  · rw [if_pos e1] at h1
    by_cases e2 : b.1 = c.1
    · rw [if_pos e2] at h2
      rw [if_pos (e1.trans e2)]
      have := of_decide_eq_true h1
      have := of_decide_eq_true h2
      exact decide_eq_true (by omega)
    · rw [if_neg e2] at h2
      rw [if_neg (by rw [e1]; exact e2), e1]
      exact h2
  · rw [if_neg e1] at h1
    by_cases e2 : b.1 = c.1
    · rw [if_neg (by rw [← e2]; exact e1), ← e2]
      exact h1
    · rw [if_neg e2] at h2
      have h3 := List.lt_trans (of_decide_eq_true h1) (of_decide_eq_true h2)
      rw [if_neg (fun e => by rw [e] at h3; exact List.lt_irrefl _ h3)]
      exact decide_eq_true h3
theorem minOf_min : ∀ (ys : List (PySem.Str × Int)) (x : PySem.Str × Int), PySem.W.minOf x ys ∈ x :: ys ∧ ∀ z ∈ x :: ys, PySem.W.DatumOrd.lt z (PySem.W.minOf x ys) = false
  | [], x => ⟨by simp [PySem.W.minOf], fun z hz => by
      have : z = x := by simpa using hz
      rw [this]
      show PySem.W.DatumOrd.lt x x = false
      rw [ltSI, if_pos rfl]
      simp⟩
  | y :: ys, x => by
    have e : PySem.W.minOf x (y :: ys) = PySem.W.minOf (if PySem.W.DatumOrd.lt y x = true then y else x) ys := rfl
    rw [e]
    obtain ⟨h1, h2⟩ := minOf_min ys (if PySem.W.DatumOrd.lt y x = true then y else x)
    by_cases c : PySem.W.DatumOrd.lt y x = true
    · rw [if_pos c] at h1 h2 ⊢
      refine ⟨List.mem_cons_of_mem _ h1, fun z hz => ?_⟩
      rcases List.mem_cons.mp hz with rfl | hz
      · cases q : PySem.W.DatumOrd.lt z (PySem.W.minOf y ys) with
        | false => rfl
        | true =>
          have := h2 y (List.mem_cons_self ..)
          rw [ltSI_trans c q] at this
          exact this
      · exact h2 z hz
    · rw [if_neg c] at h1 h2 ⊢
      refine ⟨by rcases List.mem_cons.mp h1 with h | h <;> simp [h], fun z hz => ?_⟩
      rcases List.mem_cons.mp hz with rfl | hz
      · exact h2 z (List.mem_cons_self ..)
      · rcases List.mem_cons.mp hz with rfl | hz
        · cases q : PySem.W.DatumOrd.lt z (PySem.W.minOf x ys) with
          | false => rfl
          | true =>
            have hx := h2 x (List.mem_cons_self ..)
            rcases List.mem_cons.mp h1 with h | h
            · rw [h] at q
              exact absurd q c
            · -- z below the least, which is not above x
              cases q2 : PySem.W.DatumOrd.lt (PySem.W.minOf x ys) x with
              | true => exact absurd (ltSI_trans q q2) c
              | false =>
                have e3 : PySem.W.minOf x ys = x := by
                  rw [ltSI] at hx q2
                  by_cases e1 : x.1 = (PySem.W.minOf x ys).1
                  · rw [if_pos e1] at hx
                    rw [if_pos e1.symm] at q2
                    have a1 := of_decide_eq_false hx
                    have a2 := of_decide_eq_false q2
                    exact Prod.ext e1.symm (by omega)
                  · rw [if_neg e1] at hx
                    rw [if_neg (fun z => e1 z.symm)] at q2
                    exact absurd (codes_inj (List.le_antisymm (List.not_lt.mp (of_decide_eq_false q2)) (List.not_lt.mp (of_decide_eq_false hx)))) e1
                rw [e3] at q
                exact absurd q c
        · exact h2 z (List.mem_cons_of_mem _ hz)
def turnsSI (p : List Bool) : List (PySem.Str × Int) := (List.range p.length).map fun i => (txt (turn p i), ((i : Nat) : Int))
theorem least_of {p : List Bool} {x : PySem.Str × Int} {ys : List (PySem.Str × Int)} (h : turnsSI p = x :: ys) : ∃ m, IsLeast p m ∧ PySem.W.minOf x ys = (txt (turn p m), ((m : Nat) : Int)) := by
  obtain ⟨h1, h2⟩ := minOf_min ys x
  rw [← h] at h1 h2
  obtain ⟨m, hm, e⟩ := List.mem_map.mp h1
  have hm : m < p.length := List.mem_range.mp hm
  refine ⟨m, ⟨hm, fun i hi hlt => ?_, fun i hi he => ?_⟩, e.symm⟩
  · have := h2 _ (List.mem_map.mpr ⟨i, List.mem_range.mpr hi, rfl⟩)
    rw [← e, ltSI] at this
    by_cases c : txt (turn p i) = txt (turn p m)
    · rw [c] at hlt
      exact List.lt_irrefl _ hlt
    · rw [if_neg c] at this
      exact of_decide_eq_false this hlt
  · have := h2 _ (List.mem_map.mpr ⟨i, List.mem_range.mpr (by omega), rfl⟩)
    rw [← e, ltSI, if_pos he] at this
    have := of_decide_eq_false this
    simp at this
    omega
def turnsS (p : List Bool) : List PySem.Str := (List.range p.length).map fun i => txt (turn p i)
theorem leS_trans (a b c : PySem.Str) (h1 : leG a b = true) (h2 : leG b c = true) : leG a c = true := by
  have h1 : (!decide (codes b < codes a)) = true := h1
  have h2 : (!decide (codes c < codes b)) = true := h2
  show (!decide (codes c < codes a)) = true
  simp only [Bool.not_eq_true', decide_eq_false_iff_not] at *
  exact List.not_lt.mpr (List.le_trans (List.not_lt.mp h1) (List.not_lt.mp h2))
theorem leS_total (a b : PySem.Str) : (leG a b || leG b a) = true := by
  show ((!decide (codes b < codes a)) || (!decide (codes a < codes b))) = true
  rcases List.le_total (codes a) (codes b) with h | h
  · rw [decide_eq_false (List.not_lt.mpr h)]
    rfl
  · rw [decide_eq_false (p := codes a < codes b) (List.not_lt.mpr h)]
    simp
/-- the first of the sorted ones is the least, at the place where it first stands -/
theorem least_sorted {p : List Bool} (hp : 0 < p.length) : ∃ (s : PySem.Str) (r : List PySem.Str) (j : Nat), (turnsS p).mergeSort leG = s :: r ∧ IsLeast p j ∧ s = txt (turn p j) := by
  have hperm := List.mergeSort_perm (turnsS p) leG
  have hlen : (turnsS p).length = p.length := by unfold turnsS; simp
  have hpw := List.pairwise_mergeSort (le := leG) leS_trans leS_total (turnsS p)
  cases e : (turnsS p).mergeSort leG with
  | nil =>
    have := hperm.length_eq
    rw [e] at this
    simp at this
    omega
  | cons s r =>
    rw [e] at hpw hperm
    have hs : s ∈ turnsS p := hperm.mem_iff.mp (List.mem_cons_self ..)
    have hmin : ∀ i, i < p.length → ¬ codes (txt (turn p i)) < codes s := fun i hi hlt => by
      have hi' : txt (turn p i) ∈ s :: r := hperm.mem_iff.mpr (List.mem_map.mpr ⟨i, List.mem_range.mpr hi, rfl⟩)
      rcases List.mem_cons.mp hi' with h | h
      · rw [h] at hlt
        exact List.lt_irrefl _ hlt
      · have := (List.pairwise_cons.mp hpw).1 _ h
        have : (!decide (codes (txt (turn p i)) < codes s)) = true := this
        rw [decide_eq_true hlt] at this
        cases this
    obtain ⟨j0, hj0, ej0⟩ := List.mem_map.mp hs
    have hj0 : j0 < p.length := List.mem_range.mp hj0
    cases hf : (List.range p.length).find? fun i => decide (txt (turn p i) = s) with
    | none =>
      have := find_range_none hf j0 hj0
      rw [decide_eq_true ej0] at this
      cases this
    | some j =>
      obtain ⟨a1, a2, a3⟩ := find_range_some hf
      have a2 := of_decide_eq_true a2
      refine ⟨s, r, j, rfl, ⟨a1, fun i hi => by rw [a2]; exact hmin i hi, fun i hi he => ?_⟩, a2.symm⟩
      have := a3 i hi
      rw [he, a2, decide_eq_true rfl] at this
      cases this
section
variable {K : PySem.W.Frag} {σ : L2.St} {H : Hp} {ta tb te : TE}
def rJoin (K : PySem.W.Frag) : V → List V → Hp → VK → Prop := fun x xs H Q => ∃ a p, ∃ ys : List PySem.Str, x = .str a ∧ xs = [.ref p] ∧ (SqL K H p (ys.map V.str) ∨ SqT K H p (ys.map V.str)) ∧ (ys.map (·.length)).sum + ys.length * a.length ≤ 16777216 ∧ Q (.str (Txt.join a ys)) H
theorem sum_one : ∀ l : List Bool, ((l.map fun b => (⟨#[sg b]⟩ : PySem.Str)).map (·.length)).sum = l.length
  | [] => rfl
  | a :: l => by
    rw [List.map_cons, List.map_cons, List.sum_cons, sum_one l, List.length_cons]
    show 1 + l.length = l.length + 1
    omega
theorem ev_join {bs : List Bool} (h : EvL te σ H (bs.map fun b => .str ⟨#[sg b]⟩)) (hz : bs.length ≤ 1000) : Ev (tM1 (rJoin K) (tC (.str "")) te) σ H (.str (txt bs)) := fun H1 e Q q =>
  ⟨⟨_, rfl⟩, h H1 e _ fun p H2 hp e2 h2 => ⟨"", p, bs.map fun b => ⟨#[sg b]⟩, rfl, rfl, .inl (sq_of (h2.trans (by rw [List.map_map]; rfl))), by
    rw [sum_one]
    show bs.length + _ * 0 ≤ 16777216
    omega, by
    rw [join_txt]
    exact q H2 e2⟩⟩
theorem ev_index {a : Addr} {ys : List V} {y : V} {j : Nat} (ha : Ev ta σ H (.ref a)) (hs : SqL K H a ys) (hb : Ev tb σ H y) (hy : flatV y = true) (hf : ys.all flatV = true) (hj : ys[j]? = some y) (he : eqV y y = true) (hn : ∀ (m : Nat) (z' : V), m < j → ys[m]? = some z' → eqV z' y = false) :
    Ev (tBM K "list" (rIndex K) ta (tCons tb tNil)) σ H (.int (j : Nat)) := fun H1 e Q q =>
  ha H1 e _ fun H2 e2 => ⟨Or.inl ⟨rfl, ys, ex_l (e.trans e2) hs⟩, hb H2 (e.trans e2) _ fun H3 e3 => ⟨a, ys, y, j, y, rfl, rfl, ex_l ((e.trans e2).trans e3) hs, hy, hf, hj, he, hn, q H3 (e2.trans e3)⟩⟩
end
end Bm
namespace Bm
open PySem PySem.Spec PyProof.Rows L2 Evl
/-! ### all patterns of so many beats -/
abbrev ct (t : List Bool) : Nat := t.count true
abbrev cod (t : List Bool) : List Nat := t.map sg
def lists : Nat → List (List Bool)
  | 0 => [[]]
  | k + 1 => (lists k).flatMap fun t => [t ++ [false], t ++ [true]]
theorem snoc_of {t : List Bool} {k : Nat} (h : t.length = k + 1) : ∃ s b, t = s ++ [b] ∧ s.length = k := by
  have hne : t ≠ [] := by
    intro e
    rw [e] at h
    cases h
  refine ⟨t.dropLast, t.getLast hne, (List.dropLast_concat_getLast hne).symm, by rw [List.length_dropLast]; omega⟩
theorem mem_lists : ∀ {k : Nat} {t : List Bool}, t ∈ lists k ↔ t.length = k
  | 0, t => by
    unfold lists
    constructor
    · intro h
      have : t = [] := by simpa using h
      rw [this]
      rfl
    · intro h
      have : t = [] := List.eq_nil_of_length_eq_zero h
      simp [this]
  | k + 1, t => by
    unfold lists
    rw [List.mem_flatMap]
    constructor
    · rintro ⟨s, hs, h⟩
      have hs := mem_lists.mp hs
      have : t = s ++ [false] ∨ t = s ++ [true] := by simpa using h
      rcases this with rfl | rfl <;> simp [hs]
    · intro h
      obtain ⟨s, b, rfl, hs⟩ := snoc_of h
      refine ⟨s, mem_lists.mpr hs, ?_⟩
      cases b <;> simp
theorem app_lt {a b c d : List Nat} (hl : a.length = b.length) (h : a < b) : a ++ c < b ++ d := by
  induction a generalizing b with
  | nil =>
    cases b with
    | nil => exact absurd h (List.lt_irrefl _)
    | cons _ _ => cases hl
  | cons x a ih =>
    cases b with
    | nil => cases hl
    | cons y b =>
      rw [List.cons_append, List.cons_append, List.cons_lt_cons_iff]
      rcases List.cons_lt_cons_iff.mp h with h | ⟨h1, h2⟩
      · exact .inl h
      · exact .inr ⟨h1, ih (by simpa using hl) h2⟩
theorem app_lt2 (a : List Nat) : a ++ [48] < a ++ [49] := by
  induction a with
  | nil => decide
  | cons x a ih => exact List.cons_lt_cons_iff.mpr (.inr ⟨rfl, ih⟩)
theorem lists_pw : ∀ k, (lists k).Pairwise fun a b => cod a < cod b
  | 0 => by
    unfold lists
    simp
  | k + 1 => by
    unfold lists
    rw [List.pairwise_flatMap]
    refine ⟨fun t _ => ?_, ?_⟩
    · simp only [List.pairwise_cons, List.mem_cons, List.not_mem_nil, or_false, forall_eq, List.Pairwise.nil, and_true]
      refine ⟨?_, fun _ h => h.elim⟩
      show (t ++ [false]).map sg < (t ++ [true]).map sg
      rw [List.map_append, List.map_append]
      exact app_lt2 _
    · have ih := lists_pw k
      refine List.Pairwise.imp_of_mem (fun {a b} ha hb hab x hx y hy => ?_) ih
      have ha := mem_lists.mp ha
      have hb := mem_lists.mp hb
      have hx : x = a ++ [false] ∨ x = a ++ [true] := by simpa using hx
      have hy : y = b ++ [false] ∨ y = b ++ [true] := by simpa using hy
      rcases hx with rfl | rfl <;> rcases hy with rfl | rfl <;> (unfold cod; rw [List.map_append, List.map_append]; exact app_lt (by simp [ha, hb]) hab)
def allOf (n m : Nat) : List (List Bool) := (lists n).filter fun t => decide (ct t = m)
def ext (n m k : Nat) (t : List Bool) : Bool := decide (ct t ≤ m ∧ m + k ≤ n + ct t)
def stg (n m k : Nat) : List (List Bool) := (lists k).filter (ext n m k)
def kids (n m k : Nat) (t : List Bool) : List (List Bool) := (if m + k < n + ct t then [t ++ [false]] else []) ++ (if ct t < m then [t ++ [true]] else [])
theorem ct_f (t : List Bool) : ct (t ++ [false]) = ct t := by
  unfold ct
  rw [List.count_append]
  simp
theorem ct_t (t : List Bool) : ct (t ++ [true]) = ct t + 1 := by
  unfold ct
  rw [List.count_append]
  simp
theorem ext_kids (n m k : Nat) (t : List Bool) : [t ++ [false], t ++ [true]].filter (ext n m (k + 1)) = if ext n m k t = true then kids n m k t else [] := by
  have e1 : ext n m (k + 1) (t ++ [false]) = decide (ct t ≤ m ∧ m + (k + 1) ≤ n + ct t) := by unfold ext; rw [ct_f]
  have e2 : ext n m (k + 1) (t ++ [true]) = decide (ct t + 1 ≤ m ∧ m + (k + 1) ≤ n + (ct t + 1)) := by unfold ext; rw [ct_t]
  rw [List.filter_cons, List.filter_cons, e1, e2]
  unfold ext kids
  by_cases h1 : ct t ≤ m <;> by_cases h2 : m + k ≤ n + ct t
  · rw [if_pos (c := decide (ct t ≤ m ∧ m + k ≤ n + ct t) = true) (decide_eq_true ⟨h1, h2⟩)]
    by_cases c1 : m + k < n + ct t <;> by_cases c2 : ct t < m
    · rw [if_pos (by simp; omega), if_pos (by simp; omega), if_pos c1, if_pos c2]
      rfl
    · rw [if_pos (by simp; omega), if_neg (by simp; omega), if_pos c1, if_neg c2]
      rfl
    · rw [if_neg (by simp; omega), if_pos (by simp; omega), if_neg c1, if_pos c2]
      rfl
    · rw [if_neg (by simp; omega), if_neg (by simp; omega), if_neg c1, if_neg c2]
      rfl
  all_goals rw [if_neg (c := decide (ct t ≤ m ∧ m + k ≤ n + ct t) = true) (by simp; omega), if_neg (by simp; omega), if_neg (by simp; omega)]; rfl
theorem flat_filter {α β : Type} (f : α → List β) (g : α → Bool) (h : α → List β) (F : β → Bool) (e : ∀ a, (f a).filter F = if g a = true then h a else []) : ∀ l : List α, (l.flatMap f).filter F = (l.filter g).flatMap h
  | [] => rfl
  | a :: l => by
    rw [List.flatMap_cons, List.filter_append, e a, flat_filter f g h F e l, List.filter_cons]
    by_cases c : g a = true
    · rw [if_pos c, if_pos c, List.flatMap_cons]
    · rw [if_neg c, if_neg c, List.nil_append]
theorem stg_succ (n m k : Nat) : stg n m (k + 1) = (stg n m k).flatMap (kids n m k) := by
  unfold stg
  conv => lhs; unfold lists
  exact flat_filter _ _ _ _ (ext_kids n m k) (lists k)
theorem stg_zero {n m : Nat} (h : m ≤ n) : stg n m 0 = [[]] := by
  unfold stg lists
  rw [List.filter_cons, if_pos (by unfold ext; simp; omega)]
  rfl
theorem stg_end (n m : Nat) : stg n m n = allOf n m := by
  unfold stg allOf
  refine List.filter_congr fun t _ => ?_
  unfold ext
  exact decide_eq_decide.mpr (by omega)
theorem stg_mem {n m k : Nat} {t : List Bool} (h : t ∈ stg n m k) : t.length = k ∧ ct t ≤ m ∧ m + k ≤ n + ct t := by
  obtain ⟨h1, h2⟩ := List.mem_filter.mp h
  exact ⟨mem_lists.mp h1, of_decide_eq_true h2⟩
theorem mem_allOf {n m : Nat} {t : List Bool} : t ∈ allOf n m ↔ t.length = n ∧ ct t = m := by
  unfold allOf
  rw [List.mem_filter, mem_lists, decide_eq_true_eq]
theorem allOf_pw (n m : Nat) : (allOf n m).Pairwise fun a b => cod a < cod b := (lists_pw n).filter _
theorem lists_len : ∀ k, (lists k).length = 2 ^ k
  | 0 => rfl
  | k + 1 => by
    have h : ∀ l : List (List Bool), (l.flatMap fun t => [t ++ [false], t ++ [true]]).length = l.length * 2 := by
      intro l
      induction l with
      | nil => rfl
      | cons a l ih => rw [List.flatMap_cons, List.length_append, ih, List.length_cons]; simp; omega
    unfold lists
    rw [h, lists_len k, Nat.pow_succ]
theorem stg_len {n m k : Nat} (hk : k ≤ 12) : (stg n m k).length ≤ 4096 := by
  unfold stg
  refine Nat.le_trans (List.length_filter_le _ _) ?_
  rw [lists_len]
  exact Nat.le_trans (Nat.pow_le_pow_right (by decide) hk) (by decide)
/-- by how many awake, then as texts -/
abbrev Pn := Nat × List Bool
def allP (n : Nat) : List Pn := (List.range n).flatMap fun i => (allOf n (i + 1)).map fun t => (i + 1, t)
def ltP (a b : Pn) : Prop := a.1 < b.1 ∨ (a.1 = b.1 ∧ cod a.2 < cod b.2)
theorem mem_allP {n : Nat} {x : Pn} : x ∈ allP n ↔ x.2.length = n ∧ ct x.2 = x.1 ∧ 1 ≤ x.1 := by
  unfold allP
  rw [List.mem_flatMap]
  constructor
  · rintro ⟨i, hi, h⟩
    obtain ⟨t, ht, rfl⟩ := List.mem_map.mp h
    obtain ⟨h1, h2⟩ := mem_allOf.mp ht
    exact ⟨h1, h2, by simp⟩
  · rintro ⟨h1, h2, h3⟩
    have hle : ct x.2 ≤ x.2.length := List.count_le_length
    refine ⟨x.1 - 1, List.mem_range.mpr (by omega), List.mem_map.mpr ⟨x.2, mem_allOf.mpr ⟨h1, by omega⟩, ?_⟩⟩
    exact Prod.ext (by show x.1 - 1 + 1 = x.1; omega) rfl
theorem range_pw (n : Nat) : (List.range n).Pairwise fun a b => a < b := List.pairwise_lt_range
theorem allP_pw (n : Nat) : (allP n).Pairwise ltP := by
  unfold allP
  rw [List.pairwise_flatMap]
  refine ⟨fun i _ => ?_, ?_⟩
  · rw [List.pairwise_map]
    exact (allOf_pw n (i + 1)).imp fun h => .inr ⟨rfl, h⟩
  · refine (range_pw n).imp fun {a b} h x hx y hy => ?_
    obtain ⟨t, _, rfl⟩ := List.mem_map.mp hx
    obtain ⟨u, _, rfl⟩ := List.mem_map.mp hy
    exact .inl (by show a + 1 < b + 1; omega)
theorem ltP_irr (a : Pn) : ¬ ltP a a := fun h => by
  rcases h with h | ⟨_, h⟩
  · omega
  · exact List.lt_irrefl _ h
theorem ltP_asym {a b : Pn} (h1 : ltP a b) (h2 : ltP b a) : False := by
  rcases h1 with h1 | ⟨e1, h1⟩ <;> rcases h2 with h2 | ⟨e2, h2⟩
  · omega
  · omega
  · omega
  · exact List.lt_irrefl _ (List.lt_trans h1 h2)
theorem pw_nodup {α : Type} {R : α → α → Prop} (irr : ∀ a, ¬ R a a) {l : List α} (h : l.Pairwise R) : l.Nodup :=
  List.nodup_iff_pairwise_ne.mpr (h.imp (S := fun a b => a ≠ b) fun {a b} r => fun (e : a = b) => irr a (by rw [← e] at r; exact r))
/-- what is found first is ahead of all others of its kind -/
theorem find_first {α : Type} {R : α → α → Prop} (asym : ∀ {a b}, R a b → R b a → False) {l : List α} (h : l.Pairwise R) {f : α → Bool} {x y : α} (hf : l.find? f = some x) (hy : y ∈ l) (hlt : R y x) : f y = false := by
  obtain ⟨_, as, bs, rfl, h3⟩ := List.find?_eq_some_iff_append.mp hf
  rcases List.mem_append.mp hy with hy | hy
  · simpa using h3 y hy
  · exfalso
    rw [List.pairwise_append] at h
    rcases List.mem_cons.mp hy with rfl | hy
    · exact asym hlt hlt
    · exact asym hlt ((List.pairwise_cons.mp h.2.1).1 y hy)
/-! the law's own list, sorted -/
def lists2 : Nat → List (List Bool)
  | 0 => [[]]
  | k + 1 => (lists2 k).map (fun t => t ++ [false]) ++ (lists2 k).map (fun t => t ++ [true])
theorem mem_lists2 : ∀ {k : Nat} {t : List Bool}, t ∈ lists2 k ↔ t.length = k
  | 0, t => by
    unfold lists2
    constructor
    · intro h
      have : t = [] := by simpa using h
      rw [this]
      rfl
    · intro h
      have : t = [] := List.eq_nil_of_length_eq_zero h
      simp [this]
  | k + 1, t => by
    unfold lists2
    rw [List.mem_append, List.mem_map, List.mem_map]
    constructor
    · rintro (⟨s, hs, rfl⟩ | ⟨s, hs, rfl⟩) <;> simp [mem_lists2.mp hs]
    · intro h
      obtain ⟨s, b, rfl, hs⟩ := snoc_of h
      cases b
      · exact .inl ⟨s, mem_lists2.mpr hs, rfl⟩
      · exact .inr ⟨s, mem_lists2.mpr hs, rfl⟩
theorem lists2_nodup : ∀ k, (lists2 k).Nodup
  | 0 => by
    unfold lists2
    simp
  | k + 1 => by
    unfold lists2
    have ih := lists2_nodup k
    have inj : ∀ b : Bool, ((lists2 k).map fun t => t ++ [b]).Nodup := fun b => by
      rw [List.nodup_iff_pairwise_ne, List.pairwise_map]
      refine (List.nodup_iff_pairwise_ne.mp ih).imp fun {x y} h e => h ?_
      exact List.append_cancel_right e
    rw [List.nodup_append]
    refine ⟨inj false, inj true, fun a ha b hb e => ?_⟩
    obtain ⟨s, _, rfl⟩ := List.mem_map.mp ha
    obtain ⟨u, _, rfl⟩ := List.mem_map.mp hb
    have := congrArg List.getLast? e
    simp at this
theorem lists2_len : ∀ k, (lists2 k).length = 2 ^ k
  | 0 => rfl
  | k + 1 => by
    unfold lists2
    rw [List.length_append, List.length_map, List.length_map, lists2_len k, Nat.pow_succ]
    omega
abbrev IS := Int × PySem.Str
def encP (x : Pn) : IS := (((x.1 : Nat) : Int), txt x.2)
def rawP (n : Nat) : List Pn := ((lists2 n).filter fun t => decide (true ∈ t)).map fun t => (ct t, t)
theorem encP_inj {x y : Pn} (h : encP x = encP y) : x = y := by
  unfold encP at h
  have h1 := congrArg Prod.fst h
  have h2 := congrArg Prod.snd h
  simp only at h1 h2
  exact Prod.ext (by omega) (txt_inj h2)
theorem ltIS (a b : IS) : PySem.W.DatumOrd.lt a b = (if a.1 = b.1 then decide (a.2.cps.toList < b.2.cps.toList) else decide (a.1 < b.1)) := rfl
theorem leIS_iff (a b : IS) : leG a b = true ↔ a.1 < b.1 ∨ (a.1 = b.1 ∧ a.2.cps.toList ≤ b.2.cps.toList) := by
  unfold leG
  rw [ltIS]
  by_cases e : b.1 = a.1
  · rw [if_pos e]
    simp only [Bool.not_eq_true', decide_eq_false_iff_not]
    constructor
    · intro h
      exact .inr ⟨e.symm, List.not_lt.mp h⟩
    · rintro (h | ⟨_, h⟩)
      · omega
      · exact List.not_lt.mpr h
  · rw [if_neg e]
    simp only [Bool.not_eq_true', decide_eq_false_iff_not]
    constructor
    · intro h
      exact .inl (by omega)
    · rintro (h | ⟨h, _⟩) <;> omega
theorem leIS_trans (a b c : IS) (h1 : leG a b = true) (h2 : leG b c = true) : leG a c = true := by
  rw [leIS_iff] at *
  rcases h1 with h1 | ⟨e1, h1⟩ <;> rcases h2 with h2 | ⟨e2, h2⟩
  · exact .inl (by omega)
  · exact .inl (by omega)
  · exact .inl (by omega)
  · exact .inr ⟨by omega, List.le_trans h1 h2⟩
theorem leIS_total (a b : IS) : (leG a b || leG b a) = true := by
  rw [Bool.or_eq_true, leIS_iff, leIS_iff]
  by_cases h1 : a.1 < b.1
  · exact .inl (.inl h1)
  · by_cases h2 : b.1 < a.1
    · exact .inr (.inl h2)
    · rcases List.le_total a.2.cps.toList b.2.cps.toList with h | h
      · exact .inl (.inr ⟨by omega, h⟩)
      · exact .inr (.inr ⟨by omega, h⟩)
theorem sorted_all (n : Nat) : ((rawP n).map encP).mergeSort leG = (allP n).map encP := by
  have hperm : (rawP n).Perm (allP n) := by
    refine (List.perm_ext_iff_of_nodup ?_ (pw_nodup ltP_irr (allP_pw n))).mpr fun x => ?_
    · unfold rawP
      rw [List.nodup_iff_pairwise_ne, List.pairwise_map]
      refine (List.Pairwise.filter _ (List.nodup_iff_pairwise_ne.mp (lists2_nodup n))).imp fun {a b} h e => h (congrArg Prod.snd e)
    · unfold rawP
      rw [List.mem_map, mem_allP]
      constructor
      · rintro ⟨t, ht, rfl⟩
        obtain ⟨h1, h2⟩ := List.mem_filter.mp ht
        exact ⟨mem_lists2.mp h1, rfl, List.count_pos_iff.mpr (of_decide_eq_true h2)⟩
      · rintro ⟨h1, h2, h3⟩
        exact ⟨x.2, List.mem_filter.mpr ⟨mem_lists2.mpr h1, decide_eq_true (List.count_pos_iff.mp (show 0 < ct x.2 by omega))⟩, Prod.ext h2 rfl⟩
  refine List.Perm.eq_of_pairwise (le := fun a b => leG a b = true) (fun a b _ _ h1 h2 => ?_) (List.pairwise_mergeSort leIS_trans leIS_total _) ?_ ((List.mergeSort_perm _ _).trans (hperm.map encP))
  · rw [leIS_iff] at h1 h2
    rcases h1 with h1 | ⟨e1, h1⟩ <;> rcases h2 with h2 | ⟨e2, h2⟩
    · omega
    · omega
    · omega
    · exact Prod.ext e1 (str_ext (List.le_antisymm h1 h2))
  · rw [List.pairwise_map]
    refine (allP_pw n).imp fun {a b} h => (leIS_iff _ _).mpr ?_
    rcases h with h | ⟨e, h⟩
    · exact .inl (by show ((a.1 : Nat) : Int) < (b.1 : Nat); omega)
    · exact .inr ⟨by show ((a.1 : Nat) : Int) = (b.1 : Nat); omega, List.le_of_lt h⟩
theorem allP_len {n : Nat} (hn : n ≤ 12) : (allP n).length ≤ 4096 := by
  have h := congrArg List.length (sorted_all n)
  rw [List.length_mergeSort, List.length_map, List.length_map] at h
  rw [← h]
  unfold rawP
  rw [List.length_map]
  refine Nat.le_trans (List.length_filter_le _ _) ?_
  rw [lists2_len]
  exact Nat.le_trans (Nat.pow_le_pow_right (by decide) hn) (by decide)
/-! counting in texts -/
theorem cnt_txt : ∀ t : List Bool, PyProof.Rows.cnt 49 (t.map sg) = ((ct t : Nat) : Int)
  | [] => rfl
  | b :: t => by
    rw [List.map_cons, PyProof.Rows.cnt_cons, cnt_txt t]
    unfold ct
    rw [List.count_cons]
    cases b
    · simp [sg]
    · simp [sg]
      omega
theorem count_txt (t : List Bool) : Txt.count (txt t) "1" = ((ct t : Nat) : Int) := (PyProof.Rows.count_cnt (txt t) 49).trans (cnt_txt t)
def rCount : V → List V → Hp → VK → Prop := fun x xs H Q => ∃ a b, x = .str a ∧ xs = [.str b] ∧ Q (.int (Txt.count a b)) H
theorem ev_count {σ : L2.St} {H : Hp} {ta tb : TE} {t : List Bool} (ha : Ev ta σ H (.str (txt t))) (hb : Ev tb σ H (.str "1")) : Ev (tM1 rCount ta tb) σ H (.int (ct t : Nat)) := fun H1 e Q q =>
  ha H1 e _ fun H2 e2 => ⟨⟨_, rfl⟩, hb H2 (e.trans e2) _ fun H3 e3 => ⟨txt t, "1", rfl, rfl, by rw [count_txt]; exact q H3 (e2.trans e3)⟩⟩
abbrev txV (ps : List (List Bool)) : List V := ps.map fun p => V.str (txt p)
end Bm
namespace Bm
open PySem PySem.Spec PyProof.Rows L2 Evl
/-! ### met in time -/
def okTime (p t : List Bool) (w a b : Nat) : Bool := match first p t false a b with
  | none => false
  | some k => decide (k ≤ w)
def inTime (p t : List Bool) (w : Nat) : Bool := (List.range p.length).all fun a => (List.range t.length).all fun b => okTime p t w a b
theorem inTime_iff {p t : List Bool} {w : Nat} : inTime p t w = true ↔ ∀ a, a < p.length → ∀ b, b < t.length → okTime p t w a b = true := by
  unfold inTime
  simp only [List.all_eq_true, List.mem_range]
theorem inTime_worst {p t : List Bool} {w : Nat} (hp : 0 < p.length) (ht : 0 < t.length) : inTime p t w = (match (worst p t false).1 with
    | none => false
    | some m => decide (m ≤ w)) := by
  cases h : (worst p t false).1 with
  | none =>
    obtain ⟨a, b, ha, hb, hn⟩ := (worst_none_iff hp ht).mp h
    cases e : inTime p t w with
    | false => rfl
    | true =>
      have := inTime_iff.mp e a ha b hb
      unfold okTime at this
      rw [hn] at this
      cases this
  | some m =>
    show inTime p t w = decide (m ≤ w)
    obtain ⟨a0, b0, ha0, hb0, e0⟩ := worst_at (p := p) (q := t) (l := false) hp ht
    have hm : first p t false a0 b0 = some m := by
      rw [e0] at h
      exact h
    by_cases c : m ≤ w
    · rw [decide_eq_true c]
      refine inTime_iff.mpr fun a ha b hb => ?_
      obtain ⟨k, hk, hk2⟩ := worst_le hp ht h ha hb
      unfold okTime
      rw [hk]
      exact decide_eq_true (by omega)
    · rw [decide_eq_false c]
      cases e : inTime p t w with
      | false => rfl
      | true =>
        have := inTime_iff.mp e a0 ha0 b0 hb0
        unfold okTime at this
        rw [hm] at this
        exact absurd (of_decide_eq_true this) c
theorem inTime_mono {p t : List Bool} {w w' : Nat} (h : w ≤ w') (hi : inTime p t w = true) : inTime p t w' = true := by
  refine inTime_iff.mpr fun a ha b hb => ?_
  have := inTime_iff.mp hi a ha b hb
  unfold okTime at this ⊢
  cases e : first p t false a b with
  | none => rw [e] at this; cases this
  | some k =>
    rw [e] at this
    exact decide_eq_true (by have := of_decide_eq_true this; omega)
def partnerM (p : List Bool) (n w : Nat) : Option Pn := (allP n).find? fun x => inTime p x.2 w
def uptoP (n i : Nat) : List Pn := (List.range i).flatMap fun i => (allOf n (i + 1)).map fun t => (i + 1, t)
theorem uptoP_succ (n i : Nat) : uptoP n (i + 1) = uptoP n i ++ (allOf n (i + 1)).map fun t => (i + 1, t) := by
  unfold uptoP
  rw [List.range_succ, List.flatMap_append]
  simp
theorem uptoP_pre (n : Nat) {i : Nat} (h : i < n) : ∃ s, allP n = uptoP n i ++ ((allOf n (i + 1)).map (fun t => (i + 1, t)) ++ s) := by
  have key : ∀ k, i < k → ∃ s, uptoP n k = uptoP n i ++ ((allOf n (i + 1)).map (fun t => (i + 1, t)) ++ s) := by
    intro k hk
    induction k with
    | zero => omega
    | succ k ih =>
      rw [uptoP_succ]
      by_cases e : i = k
      · subst e
        exact ⟨[], by simp⟩
      · obtain ⟨s, hs⟩ := ih (by omega)
        exact ⟨s ++ (allOf n (k + 1)).map fun t => (k + 1, t), by rw [hs]; simp⟩
  exact key n h
theorem find_app {α : Type} {f : α → Bool} {pre post : List α} {x : α} (h : ∀ y ∈ pre, f y = false) (hx : f x = true) : (pre ++ x :: post).find? f = some x :=
  List.find?_eq_some_iff_append.mpr ⟨hx, pre, post, rfl, fun a ha => by simp [h a ha]⟩
theorem split_at {α : Type} {l : List α} {i : Nat} {x : α} (h : l[i]? = some x) : l = l.take i ++ x :: l.drop (i + 1) := by
  obtain ⟨h1, h2⟩ := List.getElem?_eq_some_iff.mp h
  conv => lhs; rw [← List.take_append_drop i l]
  rw [List.drop_eq_getElem_cons h1, h2]
/-- found in all of so many awake -/
theorem find_allP {n i j : Nat} {t : List Bool} {f : Pn → Bool} (hi : i < n) (hj : (allOf n (i + 1))[j]? = some t) (h1 : ∀ y ∈ uptoP n i, f y = false) (h2 : ∀ u ∈ (allOf n (i + 1)).take j, f (i + 1, u) = false) (h : f (i + 1, t) = true) : (allP n).find? f = some (i + 1, t) := by
  obtain ⟨s, hs⟩ := uptoP_pre n hi
  rw [hs, split_at hj, List.map_append, List.map_cons, List.append_assoc, ← List.append_assoc, List.cons_append]
  refine find_app (fun y hy => ?_) h
  rcases List.mem_append.mp hy with hy | hy
  · exact h1 y hy
  · obtain ⟨u, hu, rfl⟩ := List.mem_map.mp hy
    exact h2 u hu
def cPart : Option Pn → Cel
  | none => .v .non
  | some x => .t [.int (x.1 : Nat), .str (txt x.2)]
theorem cPart_some (x : Pn) : cPart (some x) = cIS (encP x) := rfl
abbrev cT (p : List Bool) : Cel := .v (.str (txt p))
abbrev cP (x : Pn) : Cel := cIS (encP x)
theorem givenC_items {α : Type} (as : List α) (F : α → Bool) (G : α → Cel) : givenC as.length (fun i => (as[i]?.map F).getD true) (fun i => (as[i]?.map G).getD (.v .non)) = (as.filter F).map G := by
  cases as with
  | nil => rfl
  | cons a0 l =>
    generalize hA : a0 :: l = A
    have e : A = (List.range A.length).map fun i => A.getD i a0 := by
      apply List.ext_getElem
      · simp
      · intro i h1 h2
        simp [List.getD_eq_getElem?_getD, List.getElem?_eq_getElem h1]
    have r : (A.filter F).map G = ((List.range A.length).filter fun i => F (A.getD i a0)).map fun i => G (A.getD i a0) := by
      conv => lhs; rw [e]
      rw [List.filter_map, List.map_map]
      rfl
    rw [r]
    unfold givenC
    have e1 : (List.range A.length).filter (fun i => (A[i]?.map F).getD true) = (List.range A.length).filter fun i => F (A.getD i a0) := by
      refine List.filter_congr fun i hi => ?_
      have hi : i < A.length := by simpa using hi
      rw [List.getD_eq_getElem?_getD, List.getElem?_eq_getElem hi]
      rfl
    rw [e1]
    refine List.map_congr_left fun i hi => ?_
    have hi : i < A.length := by simpa using (List.mem_filter.mp hi).1
    rw [List.getD_eq_getElem?_getD, List.getElem?_eq_getElem hi]
    rfl
theorem at_map {α β : Type} {as : List α} {c : α → β} {i : Nat} {y : β} (h : (as.map c)[i]? = some y) : ∃ a, as[i]? = some a ∧ a ∈ as ∧ y = c a := by
  rw [List.getElem?_map] at h
  cases e : as[i]? with
  | none => rw [e] at h; cases h
  | some a => rw [e] at h; exact ⟨a, rfl, List.mem_of_getElem? e, (Option.some.inj h).symm⟩
theorem et_yes {σ : L2.St} {H : Hp} : EvT tYes σ H true := fun H1 _ Q q => q H1 (Ex.refl H1)
section
variable {K : PySem.W.Frag} {σ : L2.St} {H : Hp} {ta tb te tl : TE} {t : TT} {c : Cel} {D : Ends} {tu tz : TS} {g : TG}
/-- comprehensions, item by item: over a new list, over one that stands -/
theorem en_lcTN {α : Type} {as : List α} {c : α → Cel} {j : Nat} {vs : List Nat} (F : α → Bool) (G : α → Cel) (h : EvN K tl σ H (as.map c)) (hz : as.length ≤ 40000) (hw : ∀ x, wipe ((wipe σ vs).set j (some x)) vs = wipe σ vs)
    (ht : ∀ a ∈ as, ∀ (x : V) H1, Ex H H1 → Is K H1 x (c a) → EvT t ((wipe σ vs).set j (some x)) H1 (F a)) (he : ∀ a ∈ as, ∀ (x : V) H1, Ex H H1 → Is K H1 x (c a) → F a = true → EvC K te ((wipe σ vs).set j (some x)) H1 (G a)) :
    EvN K (tLc (iList K tl) (gName j) t te vs) σ H ((as.filter F).map G) := by
  have := en_lcN (K := K) (t := t) (te := te) (j := j) (vs := vs) (fun i => (as[i]?.map F).getD true) (fun i => (as[i]?.map G).getD (.v .non)) h (by rw [List.length_map]; exact hz) hw (fun i x c1 H1 e hc hi => by
    obtain ⟨a, ha, hm, rfl⟩ := at_map hc
    show EvT t _ H1 ((as[i]?.map F).getD true)
    rw [ha]
    exact ht a hm x H1 e hi) (fun i x c1 H1 e hc hi hf => by
    obtain ⟨a, ha, hm, rfl⟩ := at_map hc
    have hf : (as[i]?.map F).getD true = true := hf
    show EvC K te _ H1 ((as[i]?.map G).getD (.v .non))
    rw [ha] at hf ⊢
    exact he a hm x H1 e hi hf)
  rw [List.length_map, givenC_items] at this
  exact this
theorem en_lcTL {α : Type} {as : List α} {c : α → Cel} {a : Addr} {xs : List V} {j : Nat} {vs : List Nat} (F : α → Bool) (G : α → Cel) (h : Ev tl σ H (.ref a)) (hx : SqL K H a xs) (hc : IsAll K H xs (as.map c)) (hz : as.length ≤ 40000) (hw : ∀ x, wipe ((wipe σ vs).set j (some x)) vs = wipe σ vs)
    (ht : ∀ a ∈ as, ∀ (x : V) H1, Ex H H1 → Is K H1 x (c a) → EvT t ((wipe σ vs).set j (some x)) H1 (F a)) (he : ∀ a ∈ as, ∀ (x : V) H1, Ex H H1 → Is K H1 x (c a) → F a = true → EvC K te ((wipe σ vs).set j (some x)) H1 (G a)) :
    EvN K (tLc (iList K tl) (gName j) t te vs) σ H ((as.filter F).map G) := by
  have := en_lcL (K := K) (t := t) (te := te) (j := j) (vs := vs) (fun i => (as[i]?.map F).getD true) (fun i => (as[i]?.map G).getD (.v .non)) h hx hc (by rw [List.length_map]; exact hz) hw (fun i x c1 H1 e hc hi => by
    obtain ⟨a, ha, hm, rfl⟩ := at_map hc
    show EvT t _ H1 ((as[i]?.map F).getD true)
    rw [ha]
    exact ht a hm x H1 e hi) (fun i x c1 H1 e hc hi hf => by
    obtain ⟨a, ha, hm, rfl⟩ := at_map hc
    have hf : (as[i]?.map F).getD true = true := hf
    show EvC K te _ H1 ((as[i]?.map G).getD (.v .non))
    rw [ha] at hf ⊢
    exact he a hm x H1 e hi hf)
  rw [List.length_map, givenC_items] at this
  exact this
/-- over a new list of cells -/
theorem q_forN {cs : List Cel} (h : EvN K tl σ H cs) (Pv : Hp → Nat → L2.St → Hp → Prop) (h0 : ∀ H1, Ex H H1 → Pv H1 0 σ H1) (hx : ∀ H1 i σ' H', Pv H1 i σ' H' → Ex H1 H')
    (hs : ∀ H1 i v c σ' H', Ex H H1 → cs[i]? = some c → Is K H' v c → Pv H1 i σ' H' → g v σ' H' fun σ2 H2 => tu { D with nx := Pv H1 (i + 1), ct := Pv H1 (i + 1), bk := tz D } σ2 H2)
    (hd : ∀ H1 σ' H', Ex H H1 → Pv H1 cs.length σ' H' → tz D σ' H') : tSeq (tFor (iList K tl) g tu) tz D σ H :=
  h H (Ex.refl H) _ fun p xs H1 hp e1 h1 i1 => ⟨p, rfl, ⟨xs, sq_of h1⟩, for_list (xs := xs) (D := { D with nx := tz D }) (Pv H1) (h0 H1 e1) (fun i σ' H' _ pr => sq_of (hx _ _ _ _ pr _ _ h1)) (fun i v σ' H' hv pr => by
    obtain ⟨c, hc, ic⟩ := pr_get i1 hv
    exact hs H1 i v c σ' H' e1 hc (ic.up (hx _ _ _ _ pr)) pr) (fun σ' H' pr => hd H1 σ' H' e1 (by rw [← pr_len i1]; exact pr))⟩
theorem g_cell2 {v x1 x2 : V} {i j : Nat} {Q : L2.St → Hp → Prop} (hi : Is K H v (.t [x1, x2])) (h : Q ((σ.set i (some x1)).set j (some x2)) H) : gTup K 2 (gCons (gName i) (gCons (gName j) gNil)) v σ H Q := by
  obtain ⟨a, rfl, hs⟩ := hi
  exact ⟨a, [x1, x2], rfl, hs, rfl, x1, [x2], rfl, x2, [], rfl, rfl, h⟩
end
/-! ### in a list of (number, text) -/
def rNotInD (K : PySem.W.Frag) : R2 := fun x y H Q => ∃ (a : Addr) (xs : List V) (z : IS) (ps : List IS), y = .ref a ∧ SqL K H a xs ∧ IsAll K H xs (ps.map cIS) ∧ Is K H x (cIS z) ∧ ∀ b : Bool, (b = true ↔ z ∉ ps) → Q (.bl b) H
theorem op_notInD {X : Cx} (hu : X.A.units + 64 < cLine) : OpR X (compareOp .NotIn) (rNotInD X.K) := by
  intro pins s σ H x y v u Q I rx ry h
  obtain ⟨a, xs, z, ps, rfl, hs, hi, hz, q⟩ := h
  obtain ⟨its, rv, hl, _⟩ := I.list hs
  obtain rfl : u = Value.ref a := ry
  obtain ⟨as, ra⟩ := Dp.readsAll I _ xs its (dpAll_of (c := cIS) dp_IS hi) rv
  exact PySem.W.notIn_list_datum (x := z) (xs := ps) hl.isList ⟨as, by simpa using ra⟩ (Dp.reads I _ x v (dp_IS hz) rx) (by show X.A.units + 1 + 1 < cLine; omega) ⟨.bl _, H, I, rfl, q _ (@decide_eq_true_iff _ (_))⟩
/-- a text no later than another -/
def rLeStr : R2 := fun x y H Q => ∃ i j, x = .str i ∧ y = .str j ∧ Q (.bl (!decide (j.cps.toList < i.cps.toList))) H
theorem ev_leS {σ : L2.St} {H : Hp} {ta tb : TE} {p q : List Bool} (ha : Ev ta σ H (.str (txt p))) (hb : Ev tb σ H (.str (txt q))) : Ev (tOp rLeStr ta tb) σ H (.bl (!decide (cod q < cod p))) :=
  ev_op ha hb fun H1 _ _ q' => ⟨txt p, txt q, rfl, rfl, q' H1 (Ex.refl H1)⟩
theorem eqv_P (x y : Pn) : PyData.eqv (datC (cP x)) (datC (cP y)) = decide (x = y) := by
  have e := PySem.W.Datum.eqv (encP x) (encP y)
  refine Eq.trans e (decide_eq_decide.mpr ⟨encP_inj, congrArg encP⟩)
theorem cP_ok (x : Pn) : okC (cP x) = true := by
  show (true && (PyData.strOk (txt x.2) && true)) = true
  rw [txt_ok]
  rfl
theorem shaped_P (x : Pn) : SeqAt.shaped (datC (cP x)) = true := by
  obtain ⟨b1, b2⟩ := lay_c (cP_ok x)
  unfold SeqAt.shaped
  rw [Bool.and_eq_true]
  exact ⟨b1, decide_eq_true (by omega)⟩
end Bm
namespace Bm
open PySem PySem.Spec PyProof.Rows L2 Evl
/-! ### set(xs), xs a list of whole numbers (the road of the library's lemma for tuples) -/
section
variable {P : Program} {w : World} {A : Around} {E : Value → Shared → Prop} {s : Shared}
theorem set_ofList {l : Addr} {items : Array Value} (ns : List Int) {Q : Value → Shared → Prop} (hh : A.handled = none) (hl : s.heap.IsList l items) (hit : IntsAre items.toList ns) (hb : ns.length + 1 < scanBound)
    (h : ∀ (h' : Heap) (tk c : Nat), SetR w h' s.heap.objs.size (fun j => decide (j ∈ ns)) c → (∀ b o, s.heap.get? b = some o → h'.get? b = some o) → Q (.ref s.heap.objs.size) { s with heap := h', toks := tk }) :
    wpAny (model P w) A (call (.type "set") [.ref l]) Q E s := by
  have hsz : items.size = ns.length := by
    have z := IntsAre.length hit
    rw [Array.length_toList] at z
    exact z
  generalize hN : (Obj.mk (.type "set") none (.set #[] 0 (.fresh 0 0 (!w.params.followText "set-order"))) #[]) = N
  obtain ⟨c, tl, hmro⟩ := F.called_set.mro
  have hmade := F.called_set.made
  have hsub := F.called_set.sub
  refine wpAny_call (codeAny_of_tree ?_)
  show wpAny _ _ (callAny (.type "set") _) _ _ _
  refine wpAny_pure ⟨Code.quiet_builtin _ (by decide +kernel), codeAny_builtin F.entry_type_call ?_⟩
  rw [Around.under_plain (weight_type_call_type "set" [.ref l] []) rfl]
  have h1 := F.called_set.notType
  have h2 := F.called_set.canCreate
  have hct := F.typeCall_set_1 (.ref l)
  repeat (any_goals (first | assumption | wp_step))
  refine codeAny_mono (code_set_led1 (.ref l) (E := E) (Q₁ := fun obj s₁ => obj = .ref s.heap.objs.size ∧ s₁ = { s with heap := s.heap.push N }) ⟨rfl, by rw [← hN]⟩) fun r s₁ hr => ?_
  match r, hr with
  | .error e, hr => exact hr
  | .ok (.ret obj), hr =>
    obtain ⟨rfl, rfl⟩ := hr
    have hS : (s.heap.push N).get? s.heap.objs.size = some N := Heap.get?_push_size _ (by rw [← hN]; rfl)
    have hT : Shared.TypeIs { s with heap := s.heap.push N } (.ref s.heap.objs.size) "set" := ⟨_, hS, by rw [← hN]⟩
    have hli := F.called_set.init.lookup
    have hbi := F.called_set.init.bind (.ref s.heap.objs.size)
    repeat (any_goals (first | assumption | wp_step))
    refine codeAny_mono (codeAny_call_builtin (R := wants (fun r s₂ => r = .none ∧ ∃ h' tk c, s₂ = { s with heap := h', toks := tk } ∧ SetR w h' s.heap.objs.size (fun j => decide (j ∈ ns)) c ∧ (∀ b o, s.heap.get? b = some o → h'.get? b = some o)) E) F.called_set.init.plain F.entry_set_init (check_set_init_1 hT ?_)) fun r₂ s₂ hr₂ => ?_
    · have hl1 : (s.heap.push N).IsList l items := hl.push N
      obtain ⟨ol, hol, hcl, nl, hdl⟩ := hl
      obtain ⟨ocls, odict, odata, oslots⟩ := ol
      simp only at hcl hdl
      subst hcl; subst hdl
      have hol' : (s.heap.push N).get? l = some { cls := .type "list", dict := odict, data := .seq items nl, slots := oslots } := Heap.get?_push_of_some _ hol
      have hsls := F.sub_list_set
      have hslf := F.sub_list_frozenset
      have hne : (Value.type "list" == Value.type "dict") = false := by decide
      have hz1 : (s.heap.push N).objs.size = s.heap.objs.size + 1 := Heap.size_push ..
      have hlS : l < s.heap.objs.size := Heap.lt_size hol
      have hneI : l ≠ (s.heap.push N).objs.size := by
        rw [hz1]
        exact Nat.ne_of_lt (Nat.lt_succ_of_lt hlS)
      have hSf : s.heap.objs.size ∉ [(s.heap.push N).objs.size, l] := by
        rw [hz1]
        simp only [List.mem_cons, List.not_mem_nil, or_false, not_or]
        exact ⟨Nat.ne_of_lt (Nat.lt_succ_self _), Nat.ne_of_gt hlS⟩
      subst hN
      unfold Builtin.«set.__init__» noKeywords Builtin.Frozenset.updateFrom
      generalize hPI : pyIter = PI
      wp_walk
      subst hPI
      refine wpAny_pyIter_list hl1 ?_
      refine wpAny_bind (wpAny_runValue ?_)
      have hh3 : A.in1.in1.in1.handled = none := by simp [hh]
      have hval : ∀ (i : Nat) (v : Value), items[i]? = some v → ∃ k t, ns[i]? = some k ∧ v = .int k t := fun i v hv => by
        have hi : i < ns.length := by
          rw [← hsz]
          exact (Array.getElem?_eq_some_iff.mp hv).1
        obtain ⟨t, e⟩ := PyProof.Rows.IntsAre.int_at hit i v (by rw [Array.getElem?_toList]; exact hv)
        refine ⟨ns[i], t, List.getElem?_eq_getElem hi, ?_⟩
        rw [e, List.getD_eq_getElem?_getD, List.getElem?_eq_getElem hi]
        rfl
      refine set_update_ints ((Walks.list hh3 _ l hneI items).toS) s.heap.objs.size hSf ns hsz hb hval (items.size - 0) 0 _ (by omega) (Nat.zero_le _)
        ⟨⟨_, Heap.get?_push_size _ rfl, rfl, rfl⟩, (hl1.push _)⟩ ?hS0 ?hR
      case hS0 => exact ⟨0, Nat.le_refl 0, setR_new_at (Heap.get?_push_of_some _ hS)⟩
      case hR =>
        intro s' c' hm hc' hS'
        obtain ⟨h', g2, d', tk', os'⟩ := s'
        have eg : g2 = s.gens := hm.gens
        have ed : d' = s.drawn := hm.drawn
        have eo : os' = s.os := hm.os
        subst eg; subst ed; subst eo
        show wpAny _ _ _ _ _ _
        refine wpAny_pure ?_
        show wpAny _ _ (ret Value.none) _ _ _
        refine wpAny_pure ⟨rfl, h', tk', c', rfl, hS', fun b o e => ?_⟩
        have hb0 : b < s.heap.objs.size := Heap.lt_size e
        refine hm.heap b o ?_ (Heap.get?_push_of_some _ (Heap.get?_push_of_some _ e))
        simp only [List.mem_cons, List.not_mem_nil, or_false, not_or]
        refine ⟨Nat.ne_of_lt hb0, ?_⟩
        rw [hz1]
        exact Nat.ne_of_lt (Nat.lt_succ_of_lt hb0)
    · match r₂, hr₂ with
      | .error e, hr₂ => exact hr₂
      | .ok (.ret r), hr₂ =>
        obtain ⟨rfl, h', tk, c', rfl, hS', hk'⟩ := hr₂
        repeat (any_goals (first | assumption | wp_step))
        exact h _ _ _ hS' hk'
end
/-! ### as values -/
/-- what a set of these has: as many as it has different ones -/
def Dist (ns : List Int) (c : Nat) : Prop := ∃ ks : List Int, ks.Nodup ∧ (∀ k, k ∈ ks ↔ k ∈ ns) ∧ ks.length = c
def rSetL (K : PySem.W.Frag) (w : World) : List V → Hp → VK → Prop := fun vs H Q => ∃ (l : Addr) (ns : List Int), vs = [.ref l] ∧ SqL K H l (ns.map V.int) ∧ ns.length ≤ 4000 ∧ ∀ (p : Addr) (c : Nat), H p = none → Dist ns c → Q (.ref p) (upd H p (SetO w p (fun j => decide (j ∈ ns)) c))
theorem cr_setL {X : Cx} (hc : X.calm = true) : CallR X (.type "set") (rSetL X.K X.w) := by
  intro pins s σ H vs us Q I r h
  obtain ⟨l, ns, rfl, hs, hl, q⟩ := h
  obtain ⟨its, rv, pl, hz⟩ := I.list hs
  rw [Vals.ref1 r]
  refine set_ofList ns (I.ok.hd hc) pl.isList (by simpa using ints_of_vals rv) (by unfold scanBound; omega) fun h' tk c R k => ?_
  have hd : Dist ns c := by
    obtain ⟨o, es, ep, t, ho, hx, hd, g, nd, hm, hb, hf, hn, _⟩ := R
    exact ⟨es.toList.map keyOf, nd, fun k => by rw [← hm k, decide_eq_true_eq], by rw [List.length_map, Array.length_toList]; exact hn⟩
  exact ⟨.ref _, upd H s.heap.objs.size (SetO X.w s.heap.objs.size (fun j => decide (j ∈ ns)) c), I.laid (t' := tk) (fun b u e => k b u e) (Nat.le_refl _) (setO_new R), rfl, q _ c (I.hok.fresh (Nat.le_refl _)) hd⟩
def rLenSet (w : World) : List V → Hp → VK → Prop := fun vs H Q => ∃ (a : Addr) (S : Int → Bool) (n : Nat), vs = [.ref a] ∧ H a = some (SetO w a S n) ∧ n ≤ 4000 ∧ Q (.int (n : Nat)) H
theorem cr_lenSet {X : Cx} : CallR X (.builtin "len") (rLenSet X.w) := by
  intro pins s σ H vs us Q I r h
  obtain ⟨a, S, n, rfl, ha, hn4, q⟩ := h
  rw [Vals.ref1 r]
  obtain ⟨o, es, ep, t, ho, hex, hd, _, _, _, hb, hf, hn, _⟩ := setO_get I ha
  exact call_len_set ho hex hd hf (by rw [hn]; omega) ⟨.int n, H, I.tok _, ⟨_, by rw [hn]⟩, q⟩
/-- two lists that rise and have the same members -/
theorem rise_eq {as bs : List Int} (ha : as.Pairwise (· < ·)) (hb : bs.Pairwise (· < ·)) (h : ∀ k, k ∈ as ↔ k ∈ bs) : as = bs := by
  refine List.Perm.eq_of_pairwise (le := fun a b => a < b) (fun a b _ _ h1 h2 => absurd (Int.lt_trans h1 h2) (Int.lt_irrefl _)) ha hb ?_
  have nd : ∀ {l : List Int}, l.Pairwise (· < ·) → l.Nodup := fun h => List.nodup_iff_pairwise_ne.mpr (h.imp (S := fun a b => a ≠ b) fun {a b} r => Int.ne_of_lt r)
  exact (List.perm_ext_iff_of_nodup (nd ha) (nd hb)).mpr h
theorem few_nat : ∀ (m : Nat) (l : List Nat), l.Nodup → (∀ x ∈ l, x < m) → l.length ≤ m
  | 0, l, _, h => by
    cases l with
    | nil => exact Nat.le_refl _
    | cons a l => exact absurd (h a List.mem_cons_self) (Nat.not_lt_zero _)
  | m + 1, l, nd, h => by
    have ih := few_nat m (l.erase m) (nd.erase m) fun x hx => by
      obtain ⟨h1, h2⟩ := nd.mem_erase_iff.mp hx
      have := h x h2
      omega
    rw [List.length_erase] at ih
    split at ih <;> omega
theorem dist_few {ns : List Int} {c m : Nat} (h : Dist ns c) (hm : ∀ k ∈ ns, 0 ≤ k ∧ k < (m : Nat)) : c ≤ m := by
  obtain ⟨ks, nd, hk, rfl⟩ := h
  have h1 : (ks.map Int.toNat).Nodup := by
    rw [List.nodup_iff_pairwise_ne, List.pairwise_map]
    refine (List.nodup_iff_pairwise_ne.mp nd).imp_of_mem fun {a b} ha hb hne e => hne ?_
    have := hm a ((hk a).mp ha)
    have := hm b ((hk b).mp hb)
    omega
  have := few_nat m _ h1 fun x hx => by
    obtain ⟨a, ha, rfl⟩ := List.mem_map.mp hx
    have := hm a ((hk a).mp ha)
    omega
  rw [List.length_map] at this
  exact this
theorem dist_eq {ns : List Int} {c d : Nat} (h : Dist ns c) (h' : Dist ns d) : c = d := by
  obtain ⟨ks, nd, hk, rfl⟩ := h
  obtain ⟨ls, nd', hk', rfl⟩ := h'
  exact ((List.perm_ext_iff_of_nodup nd nd').mpr fun k => (hk k).trans (hk' k).symm).length_eq
section
variable {K : PySem.W.Frag} {w : World} {σ : L2.St} {H : Hp} {ta : TE}
theorem el_sortSet {ns ms : List Int} (ha : EvL ta σ H (ns.map V.int)) (hl : ns.length ≤ 4000) (hb : ∀ k ∈ ns, 0 ≤ k ∧ k < 60) (hm : ms.Pairwise (· < ·)) (he : ∀ k, k ∈ ms ↔ k ∈ ns) : EvL (tCB (rSortedSet w) (tCons (tCB (rSetL K w) (tCons ta tNil)) tNil)) σ H (ms.map V.int) := fun H1 e Q q =>
  ha H1 e _ fun p H2 hp e2 h2 => ⟨p, ns, rfl, sq_of h2, hl, fun s c hs hd => ⟨s, _, c, rfl, upd_same, by have := dist_few (m := 60) hd hb; omega, fun ls t h1 h3 h4 ht => by
    have : ls = ms := rise_eq h1 hm fun k => by rw [h3 k, he k, decide_eq_true_eq]
    rw [this]
    have e3 : Ex H2 (upd H2 s (SetO w s (fun j => decide (j ∈ ns)) c)) := Ex.new hs
    exact q t _ (fresh_back (e2.trans e3) ht) ((e2.trans e3).trans (Ex.new ht)) upd_same⟩⟩
theorem ev_lenSet {a : Addr} {ns : List Int} {c : Nat} (ha : Ev ta σ H (.ref a)) (hs : SqL K H a (ns.map V.int)) (hl : ns.length ≤ 4000) (hd : Dist ns c) (hc : c ≤ 4000) : Ev (tCB (rLenSet w) (tCons (tCB (rSetL K w) (tCons ta tNil)) tNil)) σ H (.int (c : Nat)) := fun H1 e Q q =>
  ha H1 e _ fun H2 e2 => ⟨a, ns, rfl, ex_l (e.trans e2) hs, hl, fun s c' hs' hd' => ⟨s, _, c', rfl, upd_same, by rw [dist_eq hd' hd]; exact hc, by
    rw [dist_eq hd' hd]
    exact q _ (e2.trans (Ex.new hs'))⟩⟩
end
end Bm
namespace Bm
open PySem PySem.Spec PyProof.Rows L2 Evl
/-! ### distances of awake beats -/
def hasD (p : List Bool) (d : Nat) : Bool := (ones p).any fun i => aw p (i + d)
def lackM (p : List Bool) : Option Nat := (List.range p.length).find? fun d => !hasD p d
def apartM (p : List Bool) : List Nat := (List.range p.length).filter (hasD p)
def fewestM (n : Nat) : Option Pn := (allP n).find? fun x => (lackM x.2).isNone
def begM (n m : Nat) : List (List Bool) := (allOf n m).filter fun p => p.getD 0 false
theorem hasD_iff {p : List Bool} {d : Nat} : hasD p d = true ↔ ∃ i ∈ ones p, aw p (i + d) = true := by
  unfold hasD
  rw [List.any_eq_true]
theorem lack_none {p : List Bool} : lackM p = none ↔ ∀ d, d < p.length → hasD p d = true := by
  unfold lackM
  constructor
  · intro h d hd
    have := find_range_none h d hd
    simpa using this
  · intro h
    exact find_range_no fun d hd => by rw [h d hd]; rfl
theorem apart_full {p : List Bool} : apartM p = List.range p.length ↔ lackM p = none := by
  rw [lack_none]
  unfold apartM
  rw [List.filter_eq_self]
  simp only [List.mem_range]
theorem all1_lack {n : Nat} : lackM (List.replicate n true) = none := by
  rw [lack_none]
  intro d hd
  rw [List.length_replicate] at hd
  have hg : ∀ i, i < n → (List.replicate n true).getD i false = true := fun i hi => by
    rw [List.getD_eq_getElem?_getD, List.getElem?_replicate, if_pos hi]
    rfl
  refine hasD_iff.mpr ⟨0, mem_ones.mpr ⟨by rw [List.length_replicate]; omega, hg 0 (by omega)⟩, ?_⟩
  unfold aw
  rw [List.length_replicate]
  exact hg _ (Nat.mod_lt _ (by omega))
theorem all1_in {n : Nat} (h : 1 ≤ n) : (n, List.replicate n true) ∈ allP n := mem_allP.mpr ⟨by simp, by show ct (List.replicate n true) = n; unfold ct; simp, h⟩
theorem few_ex {n : Nat} (h : 1 ≤ n) : ∃ x, fewestM n = some x := by
  cases e : fewestM n with
  | some x => exact ⟨x, rfl⟩
  | none =>
    have := List.find?_eq_none.mp e _ (all1_in h)
    rw [all1_lack] at this
    exact absurd rfl this
theorem few_facts {n : Nat} {x : Pn} (h : fewestM n = some x) : x ∈ allP n ∧ lackM x.2 = none := by
  refine ⟨List.mem_of_find?_eq_some h, ?_⟩
  have := (List.find?_eq_some_iff_append.mp h).1
  simpa using this
theorem lack_less {n : Nat} {x : Pn} (h : fewestM n = some x) {p : List Bool} (hp : p.length = n) (h1 : 1 ≤ ct p) (h2 : ct p < x.1) : ∃ d, lackM p = some d := by
  have := find_first (R := ltP) ltP_asym (allP_pw n) h (y := (ct p, p)) (mem_allP.mpr ⟨hp, rfl, h1⟩) (.inl h2)
  cases e : lackM p with
  | some d => exact ⟨d, rfl⟩
  | none =>
    have this : (lackM p).isNone = false := this
    rw [e] at this
    cases this
theorem lack_lt {p : List Bool} {d : Nat} (h : lackM p = some d) : d < p.length ∧ hasD p d = false := by
  obtain ⟨h1, h2, _⟩ := find_range_some h
  exact ⟨h1, by simpa using h2⟩
theorem getD_self (p : List Bool) : (List.range p.length).map (fun i => p.getD i false) = p := by
  apply List.ext_getElem
  · simp
  · intro i h1 h2
    simp [List.getD_eq_getElem?_getD, List.getElem?_eq_getElem h2]
theorem ones_len (p : List Bool) : (ones p).length = ct p := by
  unfold ones ct
  conv => rhs; rw [← getD_self p]
  rw [List.count_eq_countP, List.countP_map, List.countP_eq_length_filter]
  congr 1
  refine List.filter_congr fun i _ => ?_
  show p.getD i false = (p.getD i false == true)
  cases p.getD i false <;> rfl
theorem sub_len : ∀ (l D : List Nat), l.Nodup → (∀ x ∈ l, x ∈ D) → l.length ≤ D.length
  | [], _, _, _ => Nat.zero_le _
  | a :: l, D, nd, h => by
    obtain ⟨na, nd⟩ := List.nodup_cons.mp nd
    have ha := h a List.mem_cons_self
    have ih := sub_len l (D.erase a) nd fun x hx => (List.mem_erase_of_ne (fun e => na (by rw [← e]; exact hx))).mpr (h x (List.mem_cons_of_mem _ hx))
    rw [List.length_erase, if_pos ha] at ih
    have : 0 < D.length := List.length_pos_of_mem ha
    rw [List.length_cons]
    omega
theorem add_round {i d n : Nat} (hi : i < n) (hd : d < n) : (i + d) % n = if i + d < n then i + d else i + d - n := by
  by_cases c : i + d < n
  · rw [if_pos c, Nat.mod_eq_of_lt c]
  · rw [if_neg c, Nat.mod_eq_sub_mod (by omega), Nat.mod_eq_of_lt (by omega)]
theorem sub_round {a o n : Nat} (ha : a < n) (ho : o < n) : (((o : Nat) : Int) - (a : Nat)) % (n : Nat) = (((if a ≤ o then o - a else o + n - a) : Nat) : Int) := by
  by_cases c : a ≤ o
  · rw [if_pos c, Int.emod_eq_of_lt (by omega) (by omega)]
    omega
  · rw [if_neg c, ← Int.add_emod_right, Int.emod_eq_of_lt (by omega) (by omega)]
    omega
theorem few_bound {p : List Bool} (h : lackM p = none) : p.length ≤ ct p * (ct p - 1) + 1 := by
  have hc := lack_none.mp h
  by_cases h0 : p.length = 0
  · omega
  have key := sub_len ((List.range (p.length - 1)).map (· + 1)) ((ones p).flatMap fun i => ((ones p).erase i).map fun j => if i ≤ j then j - i else j + p.length - i) (by
    rw [List.nodup_iff_pairwise_ne, List.pairwise_map]
    exact (List.nodup_iff_pairwise_ne.mp List.nodup_range).imp fun {a b} hne e => hne (by omega)) (fun x hx => by
    obtain ⟨y, hy, rfl⟩ := List.mem_map.mp hx
    have hy := List.mem_range.mp hy
    obtain ⟨i, hi, ha⟩ := hasD_iff.mp (hc (y + 1) (by omega))
    have hil := (mem_ones.mp hi).1
    rw [aw_iff (by omega)] at ha
    have hj := of_decide_eq_true ha
    rw [add_round hil (by omega)] at hj
    rw [List.mem_flatMap]
    refine ⟨i, hi, List.mem_map.mpr ⟨_, (List.mem_erase_of_ne ?_).mpr hj, ?_⟩⟩
    · split <;> omega
    · have : y + 1 < p.length := by omega
      split <;> split <;> omega)
  rw [List.length_map, List.length_range] at key
  have hl : ∀ (l D : List Nat) (f : Nat → Nat → Nat), (∀ i ∈ l, i ∈ D) → (l.flatMap fun i => (D.erase i).map (f i)).length = l.length * (D.length - 1) := by
    intro l D f
    induction l with
    | nil => intro _; simp
    | cons a l ih =>
      intro hl
      rw [List.flatMap_cons, List.length_append, ih fun i hi => hl i (List.mem_cons_of_mem _ hi), List.length_map, List.length_erase, if_pos (hl a List.mem_cons_self), List.length_cons, Nat.succ_mul]
      omega
  rw [hl (ones p) (ones p) (fun i j => if i ≤ j then j - i else j + p.length - i) fun _ h => h, ones_len] at key
  omega
/-- what is all distances apart surely meets itself -/
theorem self_meets {p : List Bool} (hp : 0 < p.length) (h : lackM p = none) : (worst p p false).1 ≠ none := by
  rw [Ne, worst_none_iff hp hp]
  rintro ⟨a, b, ha, hb, hn⟩
  have hn := find_range_none hn
  obtain ⟨i, hi, hd⟩ := hasD_iff.mp (lack_none.mp h (if a ≤ b then b - a else b + p.length - a) (by split <;> omega))
  have hil := (mem_ones.mp hi).1
  have hm := hn (if a ≤ i then i - a else i + p.length - a) (by
    have : p.length * 1 ≤ p.length * p.length := Nat.mul_le_mul_left _ hp
    split <;> omega)
  unfold met at hm
  have e1 : aw p (a + if a ≤ i then i - a else i + p.length - a) = true := by
    rw [aw_iff hp]
    refine decide_eq_true ?_
    have : (a + if a ≤ i then i - a else i + p.length - a) % p.length = i := by
      by_cases c : a ≤ i
      · rw [if_pos c, Nat.mod_eq_of_lt (by omega)]
        omega
      · rw [if_neg c, Nat.mod_eq_sub_mod (by omega), Nat.mod_eq_of_lt (by omega)]
        omega
    rw [this]
    exact hi
  have e2 : aw p (b + if a ≤ i then i - a else i + p.length - a) = true := by
    rw [aw_iff hp] at hd ⊢
    refine decide_eq_true ?_
    have hd := of_decide_eq_true hd
    have : (b + if a ≤ i then i - a else i + p.length - a) % p.length = (i + if a ≤ b then b - a else b + p.length - a) % p.length := by
      have md : ∀ x, p.length ≤ x → x < p.length + p.length → x % p.length = x - p.length := fun x h1 h2 => by rw [Nat.mod_eq_sub_mod h1, Nat.mod_eq_of_lt (by omega)]
      have md2 : ∀ x, p.length + p.length ≤ x → x < p.length + p.length + p.length → x % p.length = x - p.length - p.length := fun x h1 h2 => by rw [Nat.mod_eq_sub_mod (by omega), md _ (by omega) (by omega)]
      have mm : ∀ x y, x = y → x % p.length = y % p.length := fun x y e => by rw [e]
      have mp : ∀ x y, x = y + p.length → x % p.length = y % p.length := fun x y e => by rw [e, Nat.add_mod_right]
      by_cases c : a ≤ i <;> by_cases c2 : a ≤ b
      · rw [if_pos c, if_pos c2]
        exact mm _ _ (by omega)
      · rw [if_pos c, if_neg c2]
        exact (mp _ _ (by omega)).symm
      · rw [if_neg c, if_pos c2]
        exact mp _ _ (by omega)
      · rw [if_neg c, if_neg c2]
        exact mm _ _ (by omega)
    rw [this]
    exact hd
  rw [e1, e2] at hm
  cases hm
/-! the law's own distances -/
def apL (p : List Bool) (as : List Nat) : List Int := as.flatMap fun a => (ones p).map fun o => (((o : Nat) : Int) - (a : Nat)) % (p.length : Nat)
theorem apL_mem {p : List Bool} {k : Int} : k ∈ (apartM p).map (fun d => ((d : Nat) : Int)) ↔ k ∈ apL p (ones p) := by
  unfold apL apartM
  rw [List.mem_map, List.mem_flatMap]
  constructor
  · rintro ⟨d, hd, rfl⟩
    obtain ⟨hd1, hd2⟩ := List.mem_filter.mp hd
    have hd1 := List.mem_range.mp hd1
    obtain ⟨i, hi, ha⟩ := hasD_iff.mp hd2
    have hil := (mem_ones.mp hi).1
    rw [aw_iff (by omega)] at ha
    have ho := of_decide_eq_true ha
    have hol := (mem_ones.mp ho).1
    refine ⟨i, hi, List.mem_map.mpr ⟨_, ho, ?_⟩⟩
    rw [sub_round hil hol, add_round hil hd1]
    congr 1
    split <;> split <;> omega
  · rintro ⟨a, ha, h⟩
    obtain ⟨o, ho, rfl⟩ := List.mem_map.mp h
    have hal := (mem_ones.mp ha).1
    have hol := (mem_ones.mp ho).1
    refine ⟨if a ≤ o then o - a else o + p.length - a, List.mem_filter.mpr ⟨List.mem_range.mpr (by split <;> omega), hasD_iff.mpr ⟨a, ha, ?_⟩⟩, (sub_round hal hol).symm⟩
    rw [aw_iff (by omega), add_round hal (by split <;> omega)]
    refine decide_eq_true ?_
    have e : (if (a + if a ≤ o then o - a else o + p.length - a) < p.length then (a + if a ≤ o then o - a else o + p.length - a) else (a + if a ≤ o then o - a else o + p.length - a) - p.length) = o := by
      split <;> split <;> omega
    rw [e]
    exact ho
theorem apart_rise (p : List Bool) : ((apartM p).map (fun d => ((d : Nat) : Int))).Pairwise (· < ·) := by
  rw [List.pairwise_map]
  refine (List.Pairwise.filter _ (range_pw p.length)).imp fun {a b} h => ?_
  show ((a : Nat) : Int) < (b : Nat)
  omega
/-! ### papers -/
abbrev SI := PySem.Str × Int
def paperOf (n m : Nat) : List SI := (begM n m).map fun p => (txt p, (((lackM p).getD 0 : Nat) : Int))
def paperM (n : Nat) : List SI := match fewestM n with
  | some x => if 1 < x.1 then paperOf n (x.1 - 1) else []
  | none => []
def goodBy (p : List Bool) (b : Int) : Bool := decide (0 ≤ b) && decide (b < (p.length : Nat)) && !hasD p b.toNat
def showsM (n m : Nat) (rs : List SI) : Bool := if m = 0 then rs.isEmpty else decide (rs.map Prod.fst = (begM n m).map txt) && ((begM n m).zip (rs.map Prod.snd)).all fun x => goodBy x.1 x.2
theorem mem_begM {n m : Nat} {p : List Bool} : p ∈ begM n m ↔ p.length = n ∧ ct p = m ∧ p.getD 0 false = true := by
  unfold begM
  rw [List.mem_filter, mem_allOf]
  exact ⟨fun h => ⟨h.1.1, h.1.2, h.2⟩, fun h => ⟨⟨h.1, h.2.1⟩, h.2.2⟩⟩
theorem begM_len {n m : Nat} (hn : n ≤ 12) : (begM n m).length ≤ 4096 := by
  unfold begM allOf
  refine Nat.le_trans (List.length_filter_le _ _) (Nat.le_trans (List.length_filter_le _ _) ?_)
  rw [lists_len]
  exact Nat.le_trans (Nat.pow_le_pow_right (by decide) hn) (by decide)
theorem paper_shows {n : Nat} {x : Pn} (h : fewestM n = some x) (hx : 1 ≤ x.1) : showsM n (x.1 - 1) (paperM n) = true := by
  have e0 : paperM n = if 1 < x.1 then paperOf n (x.1 - 1) else [] := by
    unfold paperM
    rw [h]
  by_cases c : x.1 - 1 = 0
  · rw [e0, if_neg (by omega)]
    unfold showsM
    rw [if_pos c]
    rfl
  · rw [e0, if_pos (by omega)]
    unfold showsM
    rw [if_neg c, Bool.and_eq_true]
    unfold paperOf
    refine ⟨decide_eq_true ?_, ?_⟩
    · rw [List.map_map]
      rfl
    · rw [List.map_map, List.all_eq_true]
      rintro ⟨p, b⟩ hpb
      rw [List.zip_map_right] at hpb
      obtain ⟨⟨p1, p2⟩, hz, e⟩ := List.mem_map.mp hpb
      have e12 : p1 = p2 := by
        obtain ⟨i, hi⟩ := List.mem_iff_getElem?.mp hz
        rw [List.getElem?_zip_eq_some] at hi
        have := hi.1.symm.trans hi.2
        exact Option.some.inj this
      subst e12
      cases e
      obtain ⟨hl, hc, _⟩ := mem_begM.mp (List.of_mem_zip hz).1
      obtain ⟨d, hd⟩ := lack_less h hl (by omega) (by omega)
      obtain ⟨h1, h2⟩ := lack_lt hd
      show goodBy p1 (((lackM p1).getD 0 : Nat) : Int) = true
      rw [hd]
      unfold goodBy
      show (decide (0 ≤ ((d : Nat) : Int)) && decide (((d : Nat) : Int) < (p1.length : Nat)) && !hasD p1 (((d : Nat) : Int)).toNat) = true
      rw [Int.toNat_natCast, h2, decide_eq_true (by omega), decide_eq_true (by omega)]
      rfl
theorem paper_len {n : Nat} (hn : n ≤ 12) : (paperM n).length ≤ 4096 := by
  unfold paperM
  cases fewestM n with
  | none => exact Nat.zero_le _
  | some x =>
    show (if 1 < x.1 then paperOf n (x.1 - 1) else []).length ≤ 4096
    split
    · unfold paperOf
      rw [List.length_map]
      exact begM_len hn
    · exact Nat.zero_le _
/-! ### is True, is not True -/
theorem op_isB {X : Cx} : OpR X (compareOp .Is) (fun x y H Q => ∃ a b, x = .bl a ∧ y = .bl b ∧ Q (.bl (decide (a = b))) H) := by
  intro pins s σ H x y v u Q I rx ry h
  obtain ⟨a, b, rfl, rfl, q⟩ := h
  cases rx
  cases ry
  show wpAny _ _ ((isSame (Value.bool a) (Value.bool b)) >>= fun z => pure (Value.bool z)) _ _ s
  refine wpAny_bind (wpAny_isSame_plain rfl (wpAny_pure (fin_bl I q ?_)))
  cases a <;> cases b <;> rfl
theorem op_isnotB {X : Cx} : OpR X (compareOp .IsNot) (fun x y H Q => ∃ a b, x = .bl a ∧ y = .bl b ∧ Q (.bl (!decide (a = b))) H) := by
  intro pins s σ H x y v u Q I rx ry h
  obtain ⟨a, b, rfl, rfl, q⟩ := h
  cases rx
  cases ry
  show wpAny _ _ ((isSame (Value.bool a) (Value.bool b)) >>= fun z => pure (Value.bool (!z))) _ _ s
  refine wpAny_bind (wpAny_isSame_plain rfl (wpAny_pure (fin_bl I q ?_)))
  cases a <;> cases b <;> rfl
section
variable {K : PySem.W.Frag} {σ : L2.St} {H : Hp} {ta tb te : TE} {t : TT}
theorem en_if {b : Bool} {cs : List Cel} (h : EvT t σ H b) (h1 : b = true → EvN K ta σ H cs) (h2 : b = false → EvN K tb σ H cs) : EvN K (tIf t ta tb) σ H cs := fun H1 e Q q => h H1 e _ fun H2 e2 => by
  cases b with
  | true => exact iteT (h1 rfl H2 (e.trans e2) _ fun p xs H3 hp e3 h3 i3 => q p xs H3 (fresh_back e2 hp) (e2.trans e3) h3 i3)
  | false => exact iteF (h2 rfl H2 (e.trans e2) _ fun p xs H3 hp e3 h3 i3 => q p xs H3 (fresh_back e2 hp) (e2.trans e3) h3 i3)
/-- two new lists, compared as data -/
theorem ev_eqNN {cs ds : List Cel} {b : Bool} (ha : EvN K ta σ H cs) (hb : ∀ H1, Ex H H1 → EvN K tb σ H1 ds) (oc : cs.all okC = true) (od : ds.all okC = true) (hq : PyData.eqv (.list (cs.map datC)) (.list (ds.map datC)) = b) : Ev (tOp (rEqD K) ta tb) σ H (.bl b) := fun H1 e Q q =>
  ha H1 e _ fun p xs H2 hp e2 h2 i2 => hb H2 (e.trans e2) H2 (Ex.refl H2) _ fun p' ys H3 hp' e3 h3 i3 => ⟨_, _, .lst (sq_of (e3 _ _ h2)) (dp_cs (i2.up e3) oc), .lst (sq_of h3) (dp_cs i3 od), shaped_cs oc, shaped_cs od, by rw [hq]; exact q H3 (e2.trans e3)⟩
theorem ev_neNN {cs ds : List Cel} {b : Bool} (ha : EvN K ta σ H cs) (hb : ∀ H1, Ex H H1 → EvN K tb σ H1 ds) (oc : cs.all okC = true) (od : ds.all okC = true) (hq : PyData.eqv (.list (cs.map datC)) (.list (ds.map datC)) = b) : Ev (tOp (rNeD K) ta tb) σ H (.bl (!b)) := fun H1 e Q q =>
  ha H1 e _ fun p xs H2 hp e2 h2 i2 => hb H2 (e.trans e2) H2 (Ex.refl H2) _ fun p' ys H3 hp' e3 h3 i3 => ⟨_, _, .lst (sq_of (e3 _ _ h2)) (dp_cs (i2.up e3) oc), .lst (sq_of h3) (dp_cs i3 od), shaped_cs oc, shaped_cs od, by rw [hq]; exact q H3 (e2.trans e3)⟩
end
def cI (k : Int) : Cel := .v (.int k)
theorem eqv_ints (as bs : List Int) : PyData.eqv (.list ((as.map cI).map datC)) (.list ((bs.map cI).map datC)) = decide (as = bs) := by
  have e := PySem.W.Datum.eqv as bs
  rw [List.map_map, List.map_map]
  exact e
theorem eqv_strs (as bs : List PySem.Str) : PyData.eqv (.list ((as.map cS).map datC)) (.list ((bs.map cS).map datC)) = decide (as = bs) := by
  have e := PySem.W.Datum.eqv as bs
  rw [List.map_map, List.map_map]
  exact e
theorem ints_ok (as : List Int) : (as.map cI).all okC = true := by
  rw [List.all_map, List.all_eq_true]
  intro _ _
  rfl
theorem strs_ok {as : List PySem.Str} (h : ∀ s ∈ as, PyData.strOk s = true) : (as.map cS).all okC = true := by
  rw [List.all_map, List.all_eq_true]
  intro s hs
  exact h s hs
section
variable {K : PySem.W.Frag} {w : World} {σ : L2.St} {H : Hp} {ta : TE}
theorem el_sortSetV {a : Addr} {ns ms : List Int} (ha : Ev ta σ H (.ref a)) (hs : SqL K H a (ns.map V.int)) (hl : ns.length ≤ 4000) (hb : ∀ k ∈ ns, 0 ≤ k ∧ k < 60) (hm : ms.Pairwise (· < ·)) (he : ∀ k, k ∈ ms ↔ k ∈ ns) : EvL (tCB (rSortedSet w) (tCons (tCB (rSetL K w) (tCons ta tNil)) tNil)) σ H (ms.map V.int) := fun H1 e Q q =>
  ha H1 e _ fun H2 e2 => ⟨a, ns, rfl, ex_l (e.trans e2) hs, hl, fun s c hs' hd => ⟨s, _, c, rfl, upd_same, by have := dist_few (m := 60) hd hb; omega, fun ls t h1 h3 h4 ht => by
    have : ls = ms := rise_eq h1 hm fun k => by rw [h3 k, he k, decide_eq_true_eq]
    rw [this]
    have e3 : Ex H2 (upd H2 s (SetO w s (fun j => decide (j ∈ ns)) c)) := Ex.new hs'
    exact q t _ (fresh_back (e2.trans e3) ht) ((e2.trans e3).trans (Ex.new ht)) upd_same⟩⟩
theorem el_rg {te : TE} {n : Nat} (h : Ev te σ H (.int (n : Nat))) (hn : n ≤ 1000) : EvL (tLstRg (tRg1 te)) σ H ((List.range n).map fun d => V.int (d : Nat)) := fun H1 e Q q =>
  h H1 e _ fun H2 e2 => ⟨(n : Nat), rfl, RgOk.of_le (by omega) (by omega) (by omega) (by omega), fun p hp => by
    have e0 : rgV 0 ((n : Nat) : Int) = (List.range n).map fun d => V.int (d : Nat) := by
      unfold rgV
      rw [Int.sub_zero, Int.toNat_natCast]
      exact List.map_congr_left fun i _ => by rw [Int.zero_add]
    rw [e0]
    exact q p _ (fresh_back e2 hp) (e2.trans (Ex.new hp)) upd_same⟩
theorem ones_all (p : List Bool) : IsAll K H (onesV p) ((ones p).map fun (i : Nat) => cI ((i : Nat) : Int)) := by
  have := vals_pr (K := K) (H := H) (onesV p)
  unfold onesV at this ⊢
  rw [List.map_map] at this
  exact this
end
end Bm
namespace Bm
open PySem PySem.Spec PyProof.Rows L2 Evl
/-! ### told things: cells, or lists of plain values -/
inductive Nel where
  | c (x : Cel)
  | l (xs : List V)
/-- F: where such a list may stand -/
def IsG (K : PySem.W.Frag) (F : Addr → Prop) (H : Hp) (v : V) : Nel → Prop
  | .c x => Is K H v x
  | .l xs => ∃ b, v = .ref b ∧ F b ∧ H b = some (.lst xs)
abbrev IsGs (K : PySem.W.Frag) (F : Addr → Prop) (H : Hp) : List V → List Nel → Prop := Paired (IsG K F H)
def isL : Nel → Bool
  | .c _ => false
  | .l _ => true
def okN : Nel → Bool
  | .c (.v x) => sc1 x
  | .c (.t xs) => xs.all sc1 && decide (xs.length ≤ 1000)
  | .l xs => xs.all sc1 && decide (xs.length ≤ 1000)
section
variable {K : PySem.W.Frag} {F F' : Addr → Prop} {σ : L2.St} {H H' G : Hp} {v u : V} {c : Nel} {cs : List Nel} {ta te tl : TE} {tr : TA}
theorem IsG.up (h : IsG K F H v c) (e : Ex H H') : IsG K F H' v c := by
  cases c with
  | c x => exact Is.up h e
  | l xs =>
    obtain ⟨b, h1, h2, h3⟩ := h
    exact ⟨b, h1, h2, e _ _ h3⟩
theorem IsG.imp (h : IsG K F H v c) (hf : ∀ b, F b → F' b) : IsG K F' H v c := by
  cases c with
  | c x => exact h
  | l xs =>
    obtain ⟨b, h1, h2, h3⟩ := h
    exact ⟨b, h1, hf b h2, h3⟩
theorem IsG.b {D : Addr} {l : List V} (h : IsG K F H v c) (hD : H D = some (.lst l)) (e : ExB D H H') (hf : ∀ b, F b → b ≠ D) : IsG K F H' v c := by
  cases c with
  | c x => exact Is.ut h (ExB.toT e hD)
  | l xs =>
    obtain ⟨b, h1, h2, h3⟩ := h
    exact ⟨b, h1, h2, e _ _ (hf b h2) h3⟩
/-- seen from a heap that knows less -/
theorem IsG.off {D : Addr} {l : List V} (h : IsG K F H v c) (hD : H D = some (.lst l)) (hf : ∀ b, F b → b ≠ D) : IsG K F (off_ H D) v c := by
  cases c with
  | c x =>
    refine Is.ut h fun a xs => ⟨fun q => ?_, fun o q => ?_⟩ <;>
    · unfold off_
      rw [if_neg fun z => by rw [z, hD] at q; cases q]
      exact q
  | l xs =>
    obtain ⟨b, h1, h2, h3⟩ := h
    refine ⟨b, h1, h2, ?_⟩
    unfold off_
    rw [if_neg (hf b h2)]
    exact h3
theorem IsG.new {r : Addr} {o : HO} (h : IsG K F H v c) (hr : H r = none) : IsG K (fun b => F b ∧ b ≠ r) (upd H r o) v c := by
  cases c with
  | c x => exact Is.up h (Ex.new hr)
  | l xs =>
    obtain ⟨b, h1, h2, h3⟩ := h
    exact ⟨b, h1, ⟨h2, ne_of_none h3 hr⟩, Ex.new hr _ _ h3⟩
theorem kl_list : kitB "list" "list" = some true := by decide +kernel
theorem kl_tuple : kitB "tuple" "list" = some false := by decide +kernel
theorem kl_NoneType : kitB "NoneType" "list" = some false := by decide +kernel
theorem kl_bool : kitB "bool" "list" = some false := by decide +kernel
theorem kl_int : kitB "int" "list" = some false := by decide +kernel
theorem kl_str : kitB "str" "list" = some false := by decide +kernel
theorem isg_ty (h : IsG K F H v c) (ok : okN c = true) : ∃ T, kitB T "list" = some (isL c) ∧ ∀ H', Ex H H' → TyX K H' v (.type T) := by
  cases c with
  | l xs =>
    obtain ⟨b, rfl, _, h3⟩ := h
    exact ⟨"list", kl_list, fun H' e => ty_l (sq_of (e _ _ h3))⟩
  | c x =>
    cases x with
    | t xs =>
      obtain ⟨a, rfl, hs⟩ := h
      exact ⟨"tuple", kl_tuple, fun H' e => ty_t (ex_t e hs)⟩
    | v x =>
      have h : v = x := h
      subst h
      cases v with
      | non => exact ⟨"NoneType", kl_NoneType, fun H' e => .base .non⟩
      | bl y => exact ⟨"bool", kl_bool, fun H' e => .base (.bl y)⟩
      | int y => exact ⟨"int", kl_int, fun H' e => .base (.int y)⟩
      | str y => exact ⟨"str", kl_str, fun H' e => .base (.str y)⟩
      | _ => cases ok
theorem ev_isList (ha : Ev ta σ H v) (h : IsG K F H v c) (ok : okN c = true) : Ev (tCB (rIsi K) (tCons ta (tCons (tC (.ty "list")) tNil))) σ H (.bl (isL c)) := by
  obtain ⟨T, hk, ht⟩ := isg_ty h ok
  exact ev_isi ha ht hk
theorem al_sc2 {xs : List V} {a b : Addr} {n : Nat} (h1 : H a = some (.lst xs)) (h2 : H b = some (.lst xs)) (hx : xs.all sc1 = true) (hl : xs.length ≤ 40000) : Al K H (n + 1) (.ref a) (.ref b) := by
  refine .inr ⟨a, b, xs, xs, rfl, rfl, .inl ⟨sq_of h1, sq_of h2⟩, rfl, hl, fun i x y e1 e2 => ?_⟩
  rw [e1] at e2
  cases e2
  exact al_sc (List.all_eq_true.mp hx x (List.mem_of_getElem? e1))
theorem al_nel (h1 : IsG K F H v c) (h2 : IsG K F' H u c) (ok : okN c = true) : Al K H 1 v u := by
  cases c with
  | l xs =>
    obtain ⟨a, rfl, _, ha⟩ := h1
    obtain ⟨b, rfl, _, hb⟩ := h2
    have ok : (xs.all sc1 && decide (xs.length ≤ 1000)) = true := ok
    rw [Bool.and_eq_true] at ok
    have := of_decide_eq_true ok.2
    exact al_sc2 ha hb ok.1 (by omega)
  | c x =>
    cases x with
    | t xs =>
      have ok : (xs.all sc1 && decide (xs.length ≤ 1000)) = true := ok
      rw [Bool.and_eq_true] at ok
      have := of_decide_eq_true ok.2
      exact al_tup h1 h2 ok.1 (by omega)
    | v x =>
      have h1 : v = x := h1
      have h2 : u = x := h2
      rw [h1, h2]
      exact al_sc ok
/-- two told lists of the same -/
theorem al_told {a b : Addr} {xs ys : List V} (ha : H a = some (.lst xs)) (hx : IsGs K F H xs cs) (hb : H b = some (.lst ys)) (hy : IsGs K F' H ys cs) (ok : cs.all okN = true) (hl : cs.length ≤ 40000) : Al K H 2 (.ref a) (.ref b) := by
  refine .inr ⟨a, b, xs, ys, rfl, rfl, .inl ⟨sq_of ha, sq_of hb⟩, by rw [pr_len hx, pr_len hy], by rw [pr_len hx]; exact hl, fun i x y h1 h2 => ?_⟩
  obtain ⟨c, c1, c2⟩ := pr_get hx h1
  obtain ⟨c', c3, c4⟩ := pr_get hy h2
  rw [c1] at c3
  cases c3
  exact al_nel c2 c4 (List.all_eq_true.mp ok c (List.mem_of_getElem? c1))
/-! ### made, item by item -/
def EvG (K : PySem.W.Frag) (G : Hp) (ta : TA) (σ : L2.St) (H : Hp) (cs : List Nel) : Prop := ∀ H1, Ex H H1 → ∀ Q : List V → Hp → Prop, (∀ vs H2, Ex H1 H2 → IsGs K (fun b => G b = none) H2 vs cs → Q vs H2) → ta σ H1 Q
theorem eg_nil : EvG K G tNil σ H [] := fun H1 _ _ q => q [] H1 (Ex.refl H1) .nil
theorem eg_c {x : Cel} (h : EvC K te σ H x) (hr : EvG K G tr σ H cs) : EvG K G (tCons te tr) σ H (.c x :: cs) := fun H1 e Q q =>
  h H1 e _ fun v H2 e2 iv => hr H2 (e.trans e2) _ fun vs H3 e3 iv3 => q _ H3 (e2.trans e3) (.cons (Is.up iv e3) iv3)
theorem eg_l {xs : List V} (hG : Ex G H) (h : EvL te σ H xs) (hr : EvG K G tr σ H cs) : EvG K G (tCons te tr) σ H (.l xs :: cs) := fun H1 e Q q =>
  h H1 e _ fun p H2 hp e2 h2 => hr H2 (e.trans e2) _ fun vs H3 e3 iv3 => q _ H3 (e2.trans e3) (.cons ⟨p, rfl, fresh_back (hG.trans e) hp, e3 _ _ h2⟩ iv3)
/-- a told list: new, its lists new, and none of them itself -/
def RetG (K : PySem.W.Frag) (cs : List Nel) (H : Hp) (Q : VK) : Prop := ∀ r vs H2, H r = none → Ex H H2 → H2 r = some (.lst vs) → IsGs K (fun b => H b = none ∧ b ≠ r) H2 vs cs → Q (.ref r) H2
theorem s_retG {D : Ends} (hG : Ex G H) (h : EvG K G tr σ H cs) (hl : cs.length ≤ 1000) (k : RetG K cs G D.rt) : tRet (tLst tr) D σ H :=
  h H (Ex.refl H) _ fun vs H2 e2 iv => ⟨by rw [pr_len iv]; exact szl hl, fun p hp => k p vs _ (fresh_back (hG.trans e2) hp) ((hG.trans e2).trans (Ex.new hp)) upd_same (Paired.mapP iv fun _ _ q => IsG.new q hp)⟩
/-- [list(x) if isinstance(x, list) else x for x in told] -/
theorem r_copy {r : Addr} {vs : List V} {i j : Nat} {ws : List Nat} {Q : VK} (hi : σ[i]? = some (some (.ref r))) (hr : H r = some (.lst vs)) (hv : IsGs K F H vs cs) (ok : cs.all okN = true) (hl : cs.length ≤ 40000) (hw : ∀ x, wipe ((wipe σ ws).set j (some x)) ws = wipe σ ws) (hj : ∀ x, ((wipe σ ws).set j (some x))[j]? = some (some x))
    (k : RetG K cs H Q) : tLc (iList K (tVar i)) (gName j) tYes (tIf (tB (tCB (rIsi K) (tCons (tVar j) (tCons (tC (.ty "list")) tNil)))) (tCB (rListS K) (tCons (tVar j) tNil)) (tVar j)) ws σ H Q :=
  ⟨.ref r, hi, r, rfl, ⟨vs, sq_of hr⟩, fun Dl hD => lc_list (xs := vs) (fun m H' => Ex H H' ∧ ∃ ys, H' Dl = some (.lst ys) ∧ IsGs K (fun b => H b = none ∧ b ≠ Dl) H' ys (cs.take m)) ⟨Ex.new hD, [], upd_same, .nil⟩ (fun m H' _ p => sq_of (p.1 _ _ hr)) (fun m x H' hx p => by
    obtain ⟨e1, ys, h1, i1⟩ := p
    obtain ⟨c, hc, ic⟩ := pr_get hv hx
    have hm : m < cs.length := (List.getElem?_eq_some_iff.mp hc).1
    have okc := List.all_eq_true.mp ok c (List.mem_of_getElem? hc)
    have hyl : ys.length < sizeLine := by
      have := pr_len i1
      rw [List.length_take] at this
      exact sz_lt (by omega)
    have ht : cs.take (m + 1) = cs.take m ++ [c] := by
      rw [List.take_add_one, hc]
      rfl
    refine ⟨hw x, r_yes ?_⟩
    refine et_B (ev_isList (K := K) (ev_var (hj x)) (ic.up e1) okc) H' (Ex.refl H') _ fun H3 e3 => ?_
    have h3 := e3 _ _ h1
    cases c with
    | c z =>
      refine iteF ?_
      refine ⟨x, hj x, ys, h3, hyl, Ex.mut (e1.trans e3) hD, _, upd_same, ?_⟩
      rw [ht]
      have hb : ∀ {w : V} {c : Nel}, IsG K (fun b => H b = none ∧ b ≠ Dl) H3 w c → IsG K (fun b => H b = none ∧ b ≠ Dl) (upd H3 Dl (.lst (ys ++ [x]))) w c := fun q => q.b h3 ExB.upd fun b hb => hb.2
      exact pr_app (Paired.mapP i1 fun _ _ q => hb (q.up e3)) (.cons (hb (IsG.up (c := .c z) (F := fun b => H b = none ∧ b ≠ Dl) (Is.up ic e1) e3)) .nil)
    | l zs =>
      obtain ⟨b, rfl, hF, hb0⟩ := ic
      refine iteT ?_
      refine ⟨.ref b, hj _, b, zs, rfl, .inl (sq_of ((e1.trans e3) _ _ hb0)), fun l hl0 => ?_⟩
      have hlD : l ≠ Dl := (ne_of_none h3 hl0).symm
      have h4 : (upd H3 l (.lst zs)) Dl = some (.lst ys) := by
        rw [upd_ne hlD.symm]
        exact h3
      refine ⟨ys, h4, hyl, Ex.mut ((e1.trans e3).trans (Ex.new hl0)) hD, _, upd_same, ?_⟩
      rw [ht]
      have hb : ∀ {w : V} {c : Nel}, IsG K (fun b => H b = none ∧ b ≠ Dl) (upd H3 l (.lst zs)) w c → IsG K (fun b => H b = none ∧ b ≠ Dl) (upd (upd H3 l (.lst zs)) Dl (.lst (ys ++ [.ref l]))) w c := fun q => q.b h4 ExB.upd fun b hb => hb.2
      exact pr_app (Paired.mapP i1 fun _ _ q => hb (q.up (e3.trans (Ex.new hl0)))) (.cons (hb ⟨l, rfl, ⟨fresh_back (e1.trans e3) hl0, hlD⟩, upd_same⟩) .nil)) (fun H' p => by
    obtain ⟨e1, ys, h1, i1⟩ := p
    rw [pr_len hv, List.take_length] at i1
    exact k Dl ys H' hD e1 h1 i1)⟩
end
/-! ### what is asked -/
noncomputable def leastM (p : List Bool) : Nat := open Classical in if h : ∃ m, IsLeast p m then Classical.choose h else 0
theorem leastM_is {p : List Bool} {m : Nat} (h : IsLeast p m) : m = leastM p := by
  have hx : ∃ m, IsLeast p m := ⟨m, h⟩
  unfold leastM
  rw [dif_pos hx]
  exact h.one (Classical.choose_spec hx)
structure Case where
  p : List Bool
  q : List Bool
  n : Nat
structure Case.Ok (c : Case) : Prop where
  p : Pat 8 c.p
  q : Pat 8 c.q
  n : 1 ≤ c.n ∧ c.n ≤ 7
def Case.rows (c : Case) : List (List Bool) := [c.p, c.q, c.p ++ c.p.take 2]
theorem pat_le {m n : Nat} {p : List Bool} (h : Pat m p) (hm : m ≤ n) : Pat n p := ⟨h.lo, Nat.le_trans h.hi hm, h.has⟩
theorem Case.Ok.row {c : Case} (h : c.Ok) : ∀ p ∈ c.rows, Pat 12 p := fun p hp => by
  have h1 := h.p.hi
  have h0 := h.p.lo
  unfold Case.rows at hp
  simp only [List.mem_cons, List.not_mem_nil, or_false] at hp
  rcases hp with rfl | rfl | rfl
  · exact pat_le h.p (by decide)
  · exact pat_le h.q (by decide)
  · refine ⟨?_, ?_, List.mem_append_left _ h.p.has⟩
    · rw [List.length_append]
      omega
    · rw [List.length_append, List.length_take]
      omega
noncomputable def askM (k : Nat) (c : Case) : List Nel :=
  if k = 0 then [.c (.v (.int ((onesV c.p).length : Nat))), .c (.v (.str (txt (turn c.p 0)))), .c (cSI (txt (turn c.q (leastM c.q)), ((leastM c.q : Nat) : Int))), .c (.v (oV (first c.p c.q true 0 0)))]
  else if k = 1 then [.c (cRow (worst c.p c.q false)), .c (cRow (worst c.q c.p true)), .c (cPart (fewestM c.n))]
  else if k = 2 then (paperM c.n).map fun r => .c (cSI r)
  else [.l (natsV (frontL (c.rows.map rowOf))), .c (cPart (partnerM c.p c.n 20)), .c (.v (.bl (showsM c.n c.n []))), .l (natsV (frontL ((c.rows ++ c.rows).map rowOf)))]
theorem front_len (ps : List (List Bool)) : (natsV (frontL (ps.map rowOf))).length ≤ ps.length := by
  unfold natsV frontL
  rw [List.length_map]
  refine Nat.le_trans (List.length_filter_le _ _) ?_
  unfold sure
  refine Nat.le_trans (List.length_filter_le _ _) ?_
  rw [List.length_range, List.length_map]
  exact Nat.le_refl _
theorem nats_sc (ks : List Nat) : (natsV ks).all sc1 = true := by
  unfold natsV
  rw [List.all_map, List.all_eq_true]
  intro _ _
  rfl
theorem okN_front (ps : List (List Bool)) (h : ps.length ≤ 1000) : okN (.l (natsV (frontL (ps.map rowOf)))) = true := by
  show (_ && _) = true
  rw [nats_sc, decide_eq_true (Nat.le_trans (front_len ps) h)]
  rfl
theorem sc_oV (o : Option Nat) : sc1 (oV o) = true := by
  cases o <;> rfl
theorem okN_row (r : Row) : okN (.c (cRow r)) = true := by
  show ((sc1 (oV r.1) && (true && (true && true))) && true) = true
  rw [sc_oV]
  rfl
theorem okN_part (o : Option Pn) : okN (.c (cPart o)) = true := by
  cases o <;> rfl
theorem ask_ok (k : Nat) (c : Case) : (askM k c).all okN = true := by
  unfold askM
  split
  · show (true && (true && (true && (sc1 (oV _) && true)))) = true
    rw [sc_oV]
    rfl
  · split
    · show (_ && (_ && (_ && true))) = true
      rw [okN_row, okN_row, okN_part]
      rfl
    · split
      · rw [List.all_map, List.all_eq_true]
        intro _ _
        rfl
      · show (_ && (_ && (true && (_ && true)))) = true
        rw [okN_front _ (by show 3 ≤ 1000; decide), okN_part, okN_front _ (by show 6 ≤ 1000; decide)]
        rfl
theorem ask_len (k : Nat) {c : Case} (h : c.Ok) : (askM k c).length ≤ 4096 := by
  unfold askM
  split
  · show 4 ≤ 4096
    decide
  · split
    · show 3 ≤ 4096
      decide
    · split
      · rw [List.length_map]
        exact paper_len (by have := h.n; omega)
      · show 4 ≤ 4096
        decide
end Bm
namespace Bm
open PySem PySem.Spec PyProof.Rows L2 Evl
/-! ### the text -/
def topS (i : Nat) : Stmt := PySem.Challenge.pw_beaconmeet_k10_asked_again.main.body.getD i (.Pass ⟨0, 0, 0, 0⟩)
end Bm
namespace Bm
open PySem PySem.Spec PyProof.Rows L2 Evl
section
variable {P : Program} {w : World} {K : PySem.W.Frag} {mg : PySem.Str → Option Value} {base : Heap}
/-! ### fault_of -/
abbrev s_fault_of : Stmt := topS 9
theorem sc_fault_of : FnScope ["pattern", "at", "sign"] ["pattern"] (defScope s_fault_of) := ⟨rfl, rfl, rfl, by decide +kernel, rfl, by decide +kernel, by decide +kernel⟩
def spFault : Sp := fun vs H Q _ => ∃ x : PySem.Str, vs = [.str x] ∧ x.length ≤ 1000 ∧ RetV (oV (fault x.cps.toList)) H Q
theorem sign01 (c : Nat) : (!inV (.str ⟨#[c]⟩) [.str "1", .str "0"]) = !(c == 49 || c == 48) := by
  have h1 : eqV (.str "1") (.str ⟨#[c]⟩) = (c == 49) := by
    show decide (("1" : PySem.Str) = ⟨#[c]⟩) = _
    by_cases h : c = 49
    · subst h; rfl
    · rw [decide_eq_false (fun e => h (by have := congrArg (fun z : PySem.Str => z.cps.toList) e; simpa using (List.cons.inj this).1.symm))]
      simp [h]
  have h0 : eqV (.str "0") (.str ⟨#[c]⟩) = (c == 48) := by
    show decide (("0" : PySem.Str) = ⟨#[c]⟩) = _
    by_cases h : c = 48
    · subst h; rfl
    · rw [decide_eq_false (fun e => h (by have := congrArg (fun z : PySem.Str => z.cps.toList) e; simpa using (List.cons.inj this).1.symm))]
      simp [h]
  show (!(eqV (.str "1") (.str ⟨#[c]⟩) || (eqV (.str "0") (.str ⟨#[c]⟩) || false))) = _
  rw [h1, h0, Bool.or_false]
theorem ok_fault_of (D : Def1 K mg "fault_of" s_fault_of) (B : Bl mg) (g_MOST_BEATS : ∃ t, mg "MOST_BEATS" = some (.int 12 t)) (g_AWAKE : ∃ t, mg "AWAKE" = some (.str "1" t)) (g_ASLEEP : ∃ t, mg "ASLEEP" = some (.str "0" t)) :
    Cal P w K mg base 1 "fault_of" ["pattern"] spFault := by
  refine D.cal sc_fault_of (fun _ _ _ _ _ _ us hl => match us, hl with | [_], _ => rfl) (fun vs H Q E h => ?_) (fun f cdv A outer s H vs Q E hr h => ?_)
  · obtain ⟨x, rfl, _⟩ := h
    rfl
  · obtain ⟨x, rfl, hl, k⟩ := h
    refine ⟨_, (pss_cons (ps_for PassesOwn.never rfl (pi_enumS (by rfl) B.enumerate (pa_cons (pv 0) pa_nil)) (pg_tup rfl (pgs_cons (pg_name (i := 1) sc_fault_of.nd rfl (Or.inl rfl)) (pgs_cons (pg_name (i := 2) sc_fault_of.nd rfl (Or.inl rfl)) pgs_nil)))
 (pss_one (ps_if (PW.pt (pw_or (pt_cmpR op_ge (pv 1) (pe_gI g_MOST_BEATS) (nomark _)) (pw_or1 (pt_cmpR op_notIn_seq (pv 2) (pe_tup (pa_cons (pe_gS g_AWAKE) (pa_cons (pe_gS g_ASLEEP) pa_nil))) (by rfl))))) (pss_one (ps_ret (pv 1)))
 pss_nil)))
 (pss_one (ps_ret (pe_ifExp (pt_cmpR op_notIn_sign (pe_gS g_AWAKE) (pv 0) (by rfl)) (pe_callB call_len_str (by rfl) B.len PySem.boot_len (pa_cons (pv 0) pa_nil)) pe_non)))), ?_⟩
    have hls : x.cps.toList.length = x.cps.size := Array.length_toList
    refine s_forES (ea_cons (ev_var rfl) ea_nil) (fun i σ H' => (∃ y1 y2, σ = [some (.str x), y1, y2]) ∧ Ex H H' ∧ ∀ j, j < i → badAt (x.cps.toList.getD j 0) j = false) (fun H1 e => ⟨⟨_, _, rfl⟩, e, fun j hj => absurd hj (Nat.not_lt_zero _)⟩) (fun i T c σ' H' hc p hT => ?_) (fun σ' H' p => ?_)
    · obtain ⟨⟨y1, y2, rfl⟩, e, pr⟩ := p
      refine g_two ?_
      have hg : x.cps.toList.getD i 0 = c := by
        rw [List.getD_eq_getElem?_getD, Array.getElem?_toList, hc]
        rfl
      have hi : i < x.cps.size := (Array.getElem?_eq_some_iff.mp hc).1
      have eT : Ex H (upd H' T (.tup [.int (i : Nat), .str ⟨#[c]⟩])) := e.trans (Ex.new hT)
      refine s_when (b := badAt c i) (et_is (et_or (et_test (ev_op (ev_var rfl) ev_c rv_I0)) (fun _ => et_test (ev_niU (ev_var rfl) (eu_tup (ea_cons ev_c (ea_cons ev_c ea_nil)) (by show 2 ≤ 100000; decide)) rfl rfl))) ?_) (fun hb H1 e1 => ?_) (fun hb H1 e1 => ?_)
      · rw [sign01]
        show (decide ((12 : Int) ≤ (i : Int)) || _) = badAt c i
        unfold badAt
        congr 1
        exact decide_eq_decide.mpr (by omega)
      · refine s_ret (v := .int (i : Nat)) (ev_var rfl) fun H2 e2 => ?_
        have hf : fault x.cps.toList = some i := by
          unfold fault
          rw [find_range_is (n := x.cps.toList.length) (m := i) (by rw [hls]; exact hi) (by rw [hg]; exact hb) pr]
        have := k H2 ((eT.trans e1).trans e2)
        rw [hf] at this
        exact this
      · refine ⟨⟨_, _, rfl⟩, eT.trans e1, fun j hj => ?_⟩
        by_cases hj' : j < i
        · exact pr j hj'
        · have : j = i := by omega
          rw [this, hg]
          exact hb
    · obtain ⟨⟨y1, y2, rfl⟩, e, pr⟩ := p
      have hn : (List.range x.cps.toList.length).find? (fun i => badAt (x.cps.toList.getD i 0) i) = none := find_range_no (by rw [hls]; exact pr)
      have hf : fault x.cps.toList = if 49 ∈ x.cps.toList then none else some x.cps.toList.length := by
        unfold fault
        rw [hn]
      have hin : Ev (tOp rSignNot (tC (.str "1")) (tVar 0)) [some (.str x), y1, y2] H' (.bl (!decide (49 ∈ x.cps.toList))) :=
        ev_op ev_c (ev_var rfl) fun H1 _ _ q => ⟨49, x, rfl, rfl, q H1 (Ex.refl H1)⟩
      have hln : Ev (tCB rLenStr (tCons (tVar 0) tNil)) [some (.str x), y1, y2] H' (.int (x.cps.toList.length : Nat)) := fun H1 _ Q q => ⟨.str x, rfl, x, rfl, szl hl, by have z := q H1 (Ex.refl H1); rw [hls] at z; exact z⟩
      refine s_ret (v := oV (fault x.cps.toList)) (ev_if (et_test hin) (fun hb => ?_) (fun hb => ?_)) fun H2 e2 => k H2 (e.trans e2)
      · have : ¬ 49 ∈ x.cps.toList := by simpa using hb
        rw [hf, if_neg this]
        exact hln
      · have : 49 ∈ x.cps.toList := by simpa using hb
        rw [hf, if_pos this]
        exact ev_c
/-! ### need_pattern -/
abbrev s_need_pattern : Stmt := topS 10
theorem sc_need_pattern : FnScope ["pattern", "fault"] ["pattern"] (defScope s_need_pattern) := ⟨rfl, rfl, rfl, by decide +kernel, rfl, by decide +kernel, by decide +kernel⟩
def spNeedP : Sp := fun vs H Q _ => ∃ p, vs = [.str (txt p)] ∧ Pat 12 p ∧ RetV .non H Q
theorem ok_need_pattern (D : Def1 K mg "need_pattern" s_need_pattern) (c_fault_of : Cal P w K mg base 1 "fault_of" ["pattern"] spFault) : Cal P w K mg base 2 "need_pattern" ["pattern"] spNeedP := by
  refine D.cal sc_need_pattern (fun _ _ _ _ _ _ us hl => match us, hl with | [_], _ => rfl) (fun vs H Q E h => ?_) (fun f cdv A outer s H vs Q E hr h => ?_)
  · obtain ⟨x, rfl, _⟩ := h
    rfl
  · obtain ⟨p, rfl, hp, k⟩ := h
    refine ⟨_, (pss_cons (ps_set (i := 1) sc_need_pattern.nd rfl (Or.inl rfl) (pe_callC c_fault_of hr (by decide) (pa_cons (pv 0) pa_nil)))
 (pss_one (ps_if (pt_cmpR op_notN (pv 1) pe_non (nomark _)) pss_never
 pss_nil))), ?_⟩
    have hh := hp.hi
    refine q_asg (v := .non) (ev_call (ea_cons (ev_var rfl) ea_nil) fun H1 e Q q E => ⟨txt p, rfl, by rw [txt_len]; omega, by rw [fault_txt hp]; exact q⟩) fun H1 e1 => ?_
    exact s_when (b := false) (et_is (et_test (ev_notN (x := .non) (ev_var rfl))) rfl) (fun hb => nomatch hb) (fun _ H2 e2 => k H2 (e1.trans e2))
/-! ### need_phase -/
abbrev s_need_phase : Stmt := topS 12
theorem sc_need_phase : FnScope ["pattern", "phase"] ["pattern", "phase"] (defScope s_need_phase) := ⟨rfl, rfl, rfl, by decide +kernel, rfl, by decide +kernel, by decide +kernel⟩
def spNeedPh : Sp := fun vs H Q _ => ∃ (p : List Bool) (a : Nat), vs = [.str (txt p), .int (a : Nat)] ∧ p.length ≤ 1000 ∧ a < p.length ∧ RetV .non H Q
theorem ok_need_phase (D : Def1 K mg "need_phase" s_need_phase) (B : Bl mg) : Cal P w K mg base 1 "need_phase" ["pattern", "phase"] spNeedPh := by
  refine D.cal sc_need_phase (fun _ _ _ _ _ _ us hl => match us, hl with | [_, _], _ => rfl) (fun vs H Q E h => ?_) (fun f cdv A outer s H vs Q E hr h => ?_)
  · obtain ⟨x, a, rfl, _⟩ := h
    rfl
  · obtain ⟨p, a, rfl, hl, ha, k⟩ := h
    refine ⟨_, (pss_one (ps_if (pt_not (pt_chain op_le op_lt pe_int (pv 1) (pe_callB call_len_str (by rfl) B.len PySem.boot_len (pa_cons (pv 0) pa_nil)))) pss_never
 pss_nil)), ?_⟩
    refine s_when (b := false) (et_is (et_not (et_test (ev_chain (K := K) ev_c (ev_var rfl) (ev_lenS (p := p) (ev_var rfl) hl) rv_I0 rv_I0))) ?_) (fun hb => nomatch hb) (fun _ H2 e2 => k H2 e2)
    have h1 : decide ((0 : Int) ≤ (a : Nat)) = true := decide_eq_true (by omega)
    have h2 : decide (((a : Nat) : Int) < (p.length : Nat)) = true := decide_eq_true (by omega)
    show (!(decide ((0 : Int) ≤ (a : Nat)) && decide (((a : Nat) : Int) < (p.length : Nat)))) = false
    rw [h1, h2]
    rfl
/-! ### need_beats -/
abbrev s_need_beats : Stmt := topS 11
theorem sc_need_beats : FnScope ["beats"] ["beats"] (defScope s_need_beats) := ⟨rfl, rfl, rfl, by decide +kernel, rfl, by decide +kernel, by decide +kernel⟩
def spNeedB : Sp := fun vs H Q _ => ∃ n : Nat, vs = [.int (n : Nat)] ∧ 1 ≤ n ∧ n ≤ 12 ∧ RetV .non H Q
theorem ok_need_beats (D : Def1 K mg "need_beats" s_need_beats) (B : Bl mg) (g_MOST_BEATS : ∃ t, mg "MOST_BEATS" = some (.int 12 t)) : Cal P w K mg base 1 "need_beats" ["beats"] spNeedB := by
  refine D.cal sc_need_beats (fun _ _ _ _ _ _ us hl => match us, hl with | [_], _ => rfl) (fun vs H Q E h => ?_) (fun f cdv A outer s H vs Q E hr h => ?_)
  · obtain ⟨n, rfl, _⟩ := h
    rfl
  · obtain ⟨n, rfl, h1, h2, k⟩ := h
    refine ⟨_, (pss_one (ps_if (pt_not (pt_chain op_le op_le pe_int (pv 0) (pe_gI g_MOST_BEATS))) pss_never
 pss_nil)), ?_⟩
    refine s_when (b := false) (et_is (et_not (et_test (ev_chain (K := K) ev_c (ev_var rfl) ev_c rv_I0 rv_I0))) ?_) (fun hb => nomatch hb) (fun _ H2 e2 => k H2 e2)
    have a1 : decide ((1 : Int) ≤ (n : Nat)) = true := decide_eq_true (by omega)
    have a2 : decide (((n : Nat) : Int) ≤ 12) = true := decide_eq_true (by omega)
    show (!(decide ((1 : Int) ≤ (n : Nat)) && decide (((n : Nat) : Int) ≤ 12))) = false
    rw [a1, a2]
    rfl
/-! ### awake_of -/
abbrev s_awake_of : Stmt := topS 13
theorem sc_awake_of : FnScope ["pattern", "at"] ["pattern"] (defScope s_awake_of) := ⟨rfl, rfl, rfl, by decide +kernel, rfl, by decide +kernel, by decide +kernel⟩
theorem ok_awake_of (D : Def1 K mg "awake_of" s_awake_of) (B : Bl mg) (g_AWAKE : ∃ t, mg "AWAKE" = some (.str "1" t)) : Cal P w K mg base 1 "awake_of" ["pattern"] spOnes := by
  refine D.cal sc_awake_of (fun _ _ _ _ _ _ us hl => match us, hl with | [_], _ => rfl) (fun vs H Q E h => ?_) (fun f cdv A outer s H vs Q E hr h => ?_)
  · obtain ⟨p, rfl, _⟩ := h
    rfl
  · obtain ⟨p, rfl, hp, k⟩ := h
    refine ⟨_, (pss_one (ps_ret (pe_lc (own := [("at", 1)]) (g := gName 1) rfl sc_awake_of.nd (pi_range1 (by rfl) B.range (pa_cons (pe_callB call_len_str (by rfl) B.len PySem.boot_len (pa_cons (pv 0) pa_nil)) pa_nil)) (blkOk_by (N := ["pattern", "at"]) (sc := defScope s_awake_of) (by decide +kernel)) (fun _ _ _ _ _ => (pg_name (i := 1) sc_awake_of.nd rfl (Or.inl rfl))) (fun _ _ _ _ _ => (pts_one (pt_cmpR op_eq (pe_ix ix_str (pv 0) (pv 1) (fun _ _ => rfl)) (pe_gS g_AWAKE) (nomark _)))) (fun _ _ _ _ _ => (pv 1))))), ?_⟩
    refine s_retL (el_lcR1 (n := ((p.length : Nat) : Int)) (fun i => p.getD i false) (fun i => .int (i : Nat)) (ea_cons (ev_lenS (ev_var rfl) hp) ea_nil) (by omega) (fun _ => rfl) (fun i H1 e1 hi => ?_) (fun i H1 e1 hi _ => ev_var rfl)) fun a H1 ha e1 h1 => k a H1 ha e1 h1
    exact et_test (ev_is1 (ev_ixP (ev_var rfl) (ev_var rfl) (by omega) hp) ev_c)
/-! ### awake -/
abbrev s_awake : Stmt := topS 14
theorem sc_awake : FnScope ["pattern"] ["pattern"] (defScope s_awake) := ⟨rfl, rfl, rfl, by decide +kernel, rfl, by decide +kernel, by decide +kernel⟩
def spAwake : Sp := fun vs H Q _ => ∃ p : List Bool, vs = [.str (txt p)] ∧ Pat 12 p ∧ RetV (.int ((onesV p).length : Nat)) H Q
theorem ok_awake (D : Def1 K mg "awake" s_awake) (B : Bl mg) (c_need_pattern : Cal P w K mg base 2 "need_pattern" ["pattern"] spNeedP) (c_awake_of : Cal P w K mg base 1 "awake_of" ["pattern"] spOnes) : Cal P w K mg base 3 "awake" ["pattern"] spAwake := by
  refine D.cal sc_awake (fun _ _ _ _ _ _ us hl => match us, hl with | [_], _ => rfl) (fun vs H Q E h => ?_) (fun f cdv A outer s H vs Q E hr h => ?_)
  · obtain ⟨p, rfl, _⟩ := h
    rfl
  · obtain ⟨p, rfl, hp, k⟩ := h
    refine ⟨_, (pss_cons (ps_expr (pe_callC c_need_pattern hr (by decide) (pa_cons (pv 0) pa_nil)))
 (pss_one (ps_ret (pe_callB call_len_seq (by rfl) B.len PySem.boot_len (pa_cons (pe_callC c_awake_of hr (by decide) (pa_cons (pv 0) pa_nil)) pa_nil))))), ?_⟩
    have hp1 := hp.hi
    refine q_drop (v := .non) (ev_call (ea_cons (ev_var rfl) ea_nil) fun H1 e Q k E => ⟨p, rfl, hp, k⟩) fun H1 e1 => ?_
    exact s_ret (ev_lenN (K := K) (el_call (ea_cons (ev_var rfl) ea_nil) fun H1 e Q k E => ⟨p, rfl, by omega, k⟩)) fun H2 e2 => k H2 (e1.trans e2)
/-! ### turned_by -/
abbrev s_turned_by : Stmt := topS 15
theorem sc_turned_by : FnScope ["pattern", "by"] ["pattern", "by"] (defScope s_turned_by) := ⟨rfl, rfl, rfl, by decide +kernel, rfl, by decide +kernel, by decide +kernel⟩
def spTurnBy : Sp := fun vs H Q _ => ∃ (p : List Bool) (k : Nat), vs = [.str (txt p), .int (k : Nat)] ∧ p.length ≤ 100 ∧ RetV (.str (txt (turn p k))) H Q
theorem ok_turned_by (D : Def1 K mg "turned_by" s_turned_by) : Cal P w K mg base 1 "turned_by" ["pattern", "by"] spTurnBy := by
  refine D.cal sc_turned_by (fun _ _ _ _ _ _ us hl => match us, hl with | [_, _], _ => rfl) (fun vs H Q E h => ?_) (fun f cdv A outer s H vs Q E hr h => ?_)
  · obtain ⟨p, k, rfl, _⟩ := h
    rfl
  · obtain ⟨p, n, rfl, hp, k⟩ := h
    refine ⟨_, (pss_one (ps_ret (pe_op op_add_str (pe_slice sl_str (pv 0) (po_some (pv 1)) po_none) (pe_slice sl_str (pv 0) po_none (po_some (pv 1)))))), ?_⟩
    exact s_ret (v := .str (txt (turn p n))) (ev_addS (ev_drop (ev_var rfl) (ev_var rfl) (by omega)) (ev_take (ev_var rfl) (ev_var rfl) (by omega)) (by simp; omega)) fun H2 e2 => k H2 e2
/-! ### turned -/
abbrev s_turned : Stmt := topS 16
theorem sc_turned : FnScope ["pattern", "by"] ["pattern", "by"] (defScope s_turned) := ⟨rfl, rfl, rfl, by decide +kernel, rfl, by decide +kernel, by decide +kernel⟩
def spTurned : Sp := fun vs H Q _ => ∃ (p : List Bool) (k : Nat), vs = [.str (txt p), .int (k : Nat)] ∧ Pat 12 p ∧ k < p.length ∧ RetV (.str (txt (turn p k))) H Q
theorem ok_turned (D : Def1 K mg "turned" s_turned) (c_need_pattern : Cal P w K mg base 2 "need_pattern" ["pattern"] spNeedP) (c_need_phase : Cal P w K mg base 1 "need_phase" ["pattern", "phase"] spNeedPh) (c_turned_by : Cal P w K mg base 1 "turned_by" ["pattern", "by"] spTurnBy) : Cal P w K mg base 3 "turned" ["pattern", "by"] spTurned := by
  refine D.cal sc_turned (fun _ _ _ _ _ _ us hl => match us, hl with | [_, _], _ => rfl) (fun vs H Q E h => ?_) (fun f cdv A outer s H vs Q E hr h => ?_)
  · obtain ⟨p, k, rfl, _⟩ := h
    rfl
  · obtain ⟨p, n, rfl, hp, hn, k⟩ := h
    refine ⟨_, (pss_cons (ps_expr (pe_callC c_need_pattern hr (by decide) (pa_cons (pv 0) pa_nil)))
 (pss_cons (ps_expr (pe_callC c_need_phase hr (by decide) (pa_cons (pv 0) (pa_cons (pv 1) pa_nil))))
 (pss_one (ps_ret (pe_callC c_turned_by hr (by decide) (pa_cons (pv 0) (pa_cons (pv 1) pa_nil))))))), ?_⟩
    have hp1 := hp.hi
    refine q_drop (v := .non) (ev_call (ea_cons (ev_var rfl) ea_nil) fun H1 e Q k E => ⟨p, rfl, hp, k⟩) fun H1 e1 => ?_
    refine q_drop (v := .non) (ev_call (ea_cons (ev_var rfl) (ea_cons (ev_var rfl) ea_nil)) fun H1 e Q k E => ⟨p, n, rfl, by omega, hn, k⟩) fun H2 e2 => ?_
    exact s_ret (v := .str (txt (turn p n))) (ev_call (ea_cons (ev_var rfl) (ea_cons (ev_var rfl) ea_nil)) fun H1 e Q k E => ⟨p, n, rfl, by omega, k⟩) fun H3 e3 => k H3 ((e1.trans e2).trans e3)
/-! ### least_turn -/
abbrev s_least_turn : Stmt := topS 17
theorem sc_least_turn : FnScope ["pattern", "by"] ["pattern"] (defScope s_least_turn) := ⟨rfl, rfl, rfl, by decide +kernel, rfl, by decide +kernel, by decide +kernel⟩
def spLeast (K : PySem.W.Frag) : Sp := fun vs H Q _ => ∃ p : List Bool, vs = [.str (txt p)] ∧ Pat 12 p ∧ ∀ m, IsLeast p m → RetC K (cSI (txt (turn p m), ((m : Nat) : Int))) H Q
theorem ok_least_turn (D : Def1 K mg "least_turn" s_least_turn) (B : Bl mg) (c_need_pattern : Cal P w K mg base 2 "need_pattern" ["pattern"] spNeedP) (c_turned_by : Cal P w K mg base 1 "turned_by" ["pattern", "by"] spTurnBy) : Cal P w K mg base 3 "least_turn" ["pattern"] (spLeast K) := by
  refine D.cal sc_least_turn (fun _ _ _ _ _ _ us hl => match us, hl with | [_], _ => rfl) (fun vs H Q E h => ?_) (fun f cdv A outer s H vs Q E hr h => ?_)
  · obtain ⟨p, rfl, _⟩ := h
    rfl
  · obtain ⟨p, rfl, hp, k⟩ := h
    refine ⟨_, (pss_cons (ps_expr (pe_callC c_need_pattern hr (by decide) (pa_cons (pv 0) pa_nil)))
 (pss_one (ps_ret (pe_callB (cr_minD rfl hr) (by rfl) B.min (by decide +kernel) (pa_cons (pe_lc (own := [("by", 1)]) (g := gName 1) rfl sc_least_turn.nd (pi_range1 (by rfl) B.range (pa_cons (pe_callB call_len_str (by rfl) B.len PySem.boot_len (pa_cons (pv 0) pa_nil)) pa_nil)) (blkOk_by (N := ["pattern", "by"]) (sc := defScope s_least_turn) (by decide +kernel)) (fun _ _ _ _ _ => (pg_name (i := 1) sc_least_turn.nd rfl (Or.inl rfl))) (fun _ _ _ _ _ => pts_nil) (fun _ _ _ _ _ => (pe_tup (pa_cons (pe_callC c_turned_by hr (by decide) (pa_cons (pv 0) (pa_cons (pv 1) pa_nil))) (pa_cons (pv 1) pa_nil))))) pa_nil))))), ?_⟩
    have hp1 := hp.hi
    have hp0 := hp.lo
    refine q_drop (v := .non) (ev_call (ea_cons (ev_var rfl) ea_nil) fun H1 e Q k E => ⟨p, rfl, hp, k⟩) fun H1 e1 => ?_
    have en := en_lcR1 (K := K) (ta := tCons (tCB rLenStr (tCons (tVar 0) tNil)) tNil) (te := tTup (tCons (tCall spTurnBy [] E0 (tCons (tVar 0) (tCons (tVar 1) tNil))) (tCons (tVar 1) tNil))) (t := tYes) (j := 1) (vs := [1]) (σ := [some (.str (txt p)), none]) (H := H1) (n := ((p.length : Nat) : Int)) (fun _ => true) (fun i => cSI (txt (turn p i), ((i : Nat) : Int)))
      (ea_cons (ev_lenS (p := p) (ev_var rfl) (by omega)) ea_nil) (by omega) (fun _ => rfl) (fun b H3 e3 hb => fun H4 e4 Q q => q H4 (Ex.refl H4)) (fun i H3 e3 hb _ => ec_tup (ea_cons (ev_call (ea_cons (ev_var rfl) (ea_cons (ev_var rfl) ea_nil)) fun H1 e Q k E => ⟨p, i, rfl, by omega, k⟩) (ea_cons (ev_var rfl) ea_nil)) (by show 2 ≤ 1000; decide))
    have e0 : givenC (((p.length : Nat) : Int)).toNat (fun _ => true) (fun i => cSI (txt (turn p i), ((i : Nat) : Int))) = (turnsSI p).map cSI := by
      unfold givenC turnsSI
      rw [List.filter_eq_self.mpr (fun _ _ => rfl), List.map_map]
      rfl
    rw [e0] at en
    cases hx : turnsSI p with
    | nil =>
      have hlen : (turnsSI p).length = p.length := by unfold turnsSI; simp
      rw [hx] at hlen
      have hlen : 0 = p.length := hlen
      omega
    | cons x ys =>
      rw [hx] at en
      obtain ⟨m, hm, em⟩ := least_of hx
      refine s_retC (K := K) (ec_minN en) fun v H2 e2 i2 => ?_
      rw [em] at i2
      exact k m hm v H2 (e1.trans e2) i2
/-! ### is_met -/
abbrev s_is_met : Stmt := topS 21
theorem sc_is_met : FnScope ["one", "other", "here", "there", "loose"] ["one", "other", "here", "there", "loose"] (defScope s_is_met) := ⟨rfl, rfl, rfl, by decide +kernel, rfl, by decide +kernel, by decide +kernel⟩
def spIsMet : Sp := fun vs H Q _ => ∃ (p q : List Bool) (x y : Nat) (l : Bool), vs = [.str (txt p), .str (txt q), .int (x : Nat), .int (y : Nat), .bl l] ∧ (0 < p.length ∧ p.length ≤ 1000) ∧ (0 < q.length ∧ q.length ≤ 1000) ∧ RetV (.bl (met p q l x y)) H Q
theorem ok_is_met (D : Def1 K mg "is_met" s_is_met) (B : Bl mg) (g_AWAKE : ∃ t, mg "AWAKE" = some (.str "1" t)) (g_LATER : ∃ t, mg "LATER" = some (.int 1 t)) :
    Cal P w K mg base 1 "is_met" ["one", "other", "here", "there", "loose"] spIsMet := by
  refine D.cal sc_is_met (fun _ _ _ _ _ _ us hl => match us, hl with | [_, _, _, _, _], _ => rfl) (fun vs H Q E h => ?_) (fun f cdv A outer s H vs Q E hr h => ?_)
  · obtain ⟨p, q, x, y, l, rfl, _⟩ := h
    rfl
  · obtain ⟨p, q, x, y, l, rfl, ⟨hp, hp2⟩, ⟨hq, hq2⟩, k⟩ := h
    refine ⟨_, (pss_cons (ps_if (pt_cmpR op_ne (pe_ix ix_str (pv 1) (pe_op op_mod (pv 3) (pe_callB call_len_str (by rfl) B.len PySem.boot_len (pa_cons (pv 1) pa_nil))) (fun _ _ => rfl)) (pe_gS g_AWAKE) (nomark _)) (pss_one (ps_ret pe_bl))
 pss_nil)
 (pss_one (ps_ret (pe_or (pe_cmpR op_eq (pe_ix ix_str (pv 0) (pe_op op_mod (pv 2) (pe_callB call_len_str (by rfl) B.len PySem.boot_len (pa_cons (pv 0) pa_nil))) (fun _ _ => rfl)) (pe_gS g_AWAKE) (nomark _)) (pe_one (pe_and (pv 4) (pe_one (pe_cmpR op_eq (pe_ix ix_str (pv 0) (pe_op op_mod (pe_op op_add (pv 2) (pe_gI g_LATER)) (pe_callB call_len_str (by rfl) B.len PySem.boot_len (pa_cons (pv 0) pa_nil))) (fun _ _ => rfl)) (pe_gS g_AWAKE) (nomark _))))))))), ?_⟩
    refine q_when (b := !(aw q y)) (et_test (ev_no1 (ev_ixP (p := q) (ev_var rfl) (ev_modN (ev_var rfl) (ev_lenS (ev_var rfl) hq2) hq) (Nat.mod_lt _ hq) hq2) ev_c)) (fun hb H1 e1 => ?_) (fun hb H1 e1 => ?_)
    · refine s_ret (v := .bl (met p q l x y)) (ev_is ev_c ?_) fun H2 e2 => k H2 (e1.trans e2)
      have z : aw q y = false := by simpa using hb
      unfold met
      rw [z]
      rfl
    · refine s_ret (v := .bl (met p q l x y)) (ev_is (ev_orV (a := aw p x) (ev_is1 (ev_ixP (p := p) (ev_var rfl) (ev_modN (ev_var rfl) (ev_lenS (ev_var rfl) hp2) hp) (Nat.mod_lt _ hp) hp2) ev_c)
        (fun _ => ev_andV (a := l) (b := aw p (x + 1)) (ev_var rfl) (fun _ => ev_is1 (ev_ixP (p := p) (ev_var rfl) (ev_modN (ev_addN (ev_var rfl) (ev_c (v := .int ((1 : Nat) : Int)))) (ev_lenS (ev_var rfl) hp2) hp) (Nat.mod_lt _ hp) hp2) ev_c))) ?_) fun H2 e2 => k H2 (e1.trans e2)
      have z : aw q y = true := by simpa using hb
      unfold met
      rw [z]
      rfl
/-! ### first_of -/
abbrev s_first_of : Stmt := topS 22
theorem sc_first_of : FnScope ["one", "a", "other", "b", "loose", "moment"] ["one", "a", "other", "b", "loose"] (defScope s_first_of) := ⟨rfl, rfl, rfl, by decide +kernel, rfl, by decide +kernel, by decide +kernel⟩
def spFirst : Sp := fun vs H Q _ => ∃ (p q : List Bool) (a b : Nat) (l : Bool), vs = [.str (txt p), .int (a : Nat), .str (txt q), .int (b : Nat), .bl l] ∧ (0 < p.length ∧ p.length ≤ 100) ∧ (0 < q.length ∧ q.length ≤ 100) ∧ RetV (oV (first p q l a b)) H Q
theorem ok_first_of (D : Def1 K mg "first_of" s_first_of) (B : Bl mg) (c_is_met : Cal P w K mg base 1 "is_met" ["one", "other", "here", "there", "loose"] spIsMet) :
    Cal P w K mg base 2 "first_of" ["one", "a", "other", "b", "loose"] spFirst := by
  refine D.cal sc_first_of (fun _ _ _ _ _ _ us hl => match us, hl with | [_, _, _, _, _], _ => rfl) (fun vs H Q E h => ?_) (fun f cdv A outer s H vs Q E hr h => ?_)
  · obtain ⟨p, q, x, y, l, rfl, _⟩ := h
    rfl
  · obtain ⟨p, q, a, b, l, rfl, ⟨hp, hp2⟩, ⟨hq, hq2⟩, k⟩ := h
    refine ⟨_, (pss_cons (ps_for PassesOwn.never rfl (pi_range1 (by rfl) B.range (pa_cons (pe_op op_mul (pe_callB call_len_str (by rfl) B.len PySem.boot_len (pa_cons (pv 0) pa_nil)) (pe_callB call_len_str (by rfl) B.len PySem.boot_len (pa_cons (pv 2) pa_nil))) pa_nil)) (pg_name (i := 5) sc_first_of.nd rfl (Or.inl rfl))
 (pss_one (ps_if (pt_val (pe_callC c_is_met hr (by decide) (pa_cons (pv 0) (pa_cons (pv 2) (pa_cons (pe_op op_add (pv 1) (pv 5)) (pa_cons (pe_op op_add (pv 3) (pv 5)) (pa_cons (pv 4) pa_nil))))))) (pss_one (ps_ret (pv 5)))
 pss_nil)))
 (pss_one (ps_ret pe_non))), ?_⟩
    have hm : p.length * q.length ≤ 100 * 100 := Nat.mul_le_mul hp2 hq2
    refine q_forR1 (n := ((p.length * q.length : Nat) : Int)) (ea_cons (ev_mulN (ev_lenS (p := p) (ev_var rfl) (by omega)) (ev_lenS (p := q) (ev_var rfl) (by omega)) (by omega)) ea_nil) (by omega)
      (fun i σ H' => (∃ z, σ = [some (.str (txt p)), some (.int (a : Nat)), some (.str (txt q)), some (.int (b : Nat)), some (.bl l), z]) ∧ Ex H H' ∧ ∀ j, j < i → met p q l (a + j) (b + j) = false)
      (fun H1 e => ⟨⟨_, rfl⟩, e, fun j hj => absurd hj (Nat.not_lt_zero _)⟩) (fun i σ' H' hi pr => ?_) (fun σ' H' pr => ?_)
    · obtain ⟨⟨z, rfl⟩, e, pr⟩ := pr
      refine s_when (b := met p q l (a + i) (b + i)) (et_B (ev_call (ea_cons (ev_var rfl) (ea_cons (ev_var rfl) (ea_cons (ev_addN (ev_var rfl) (ev_var rfl)) (ea_cons (ev_addN (ev_var rfl) (ev_var rfl)) (ea_cons (ev_var rfl) ea_nil)))))
        fun H1 e Q k E => ⟨p, q, a + i, b + i, l, rfl, ⟨hp, by omega⟩, ⟨hq, by omega⟩, k⟩)) (fun hb H1 e1 => ?_) (fun hb H1 e1 => ?_)
      · refine s_ret (v := .int (i : Nat)) (ev_var rfl) fun H2 e2 => ?_
        have hf : first p q l a b = some i := find_range_is (by omega) hb pr
        have := k H2 ((e.trans e1).trans e2)
        rw [hf] at this
        exact this
      · refine ⟨⟨_, rfl⟩, e.trans e1, fun j hj => ?_⟩
        by_cases hj' : j < i
        · exact pr j hj'
        · have : j = i := by omega
          rw [this]
          exact hb
    · obtain ⟨⟨z, rfl⟩, e, pr⟩ := pr
      refine s_ret (v := .non) ev_c fun H2 e2 => ?_
      have hf : first p q l a b = none := find_range_no (by
        intro i hi
        exact pr i (by omega))
      have := k H2 (e.trans e2)
      rw [hf] at this
      exact this
/-! ### first_meet -/
abbrev s_first_meet : Stmt := topS 23
theorem sc_first_meet : FnScope ["one", "a", "other", "b", "loose"] ["one", "a", "other", "b", "loose"] (defScope s_first_meet) := ⟨rfl, rfl, rfl, by decide +kernel, rfl, by decide +kernel, by decide +kernel⟩
def spFirstMeet : Sp := fun vs H Q _ => ∃ (p q : List Bool) (a b : Nat) (l : Bool), vs = [.str (txt p), .int (a : Nat), .str (txt q), .int (b : Nat), .bl l] ∧ Pat 12 p ∧ Pat 12 q ∧ a < p.length ∧ b < q.length ∧ RetV (oV (first p q l a b)) H Q
theorem ok_first_meet (D : Def1 K mg "first_meet" s_first_meet) (c_need_pattern : Cal P w K mg base 2 "need_pattern" ["pattern"] spNeedP) (c_need_phase : Cal P w K mg base 1 "need_phase" ["pattern", "phase"] spNeedPh)
    (c_first_of : Cal P w K mg base 2 "first_of" ["one", "a", "other", "b", "loose"] spFirst) : Cal P w K mg base 3 "first_meet" ["one", "a", "other", "b", "loose"] spFirstMeet := by
  refine D.cal sc_first_meet (fun _ _ _ _ _ _ us hl => match us, hl with | [_, _, _, _, _], _ => rfl) (fun vs H Q E h => ?_) (fun f cdv A outer s H vs Q E hr h => ?_)
  · obtain ⟨p, q, x, y, l, rfl, _⟩ := h
    rfl
  · obtain ⟨p, q, a, b, l, rfl, hp, hq, ha, hb, k⟩ := h
    refine ⟨_, (pss_cons (ps_expr (pe_callC c_need_pattern hr (by decide) (pa_cons (pv 0) pa_nil)))
 (pss_cons (ps_expr (pe_callC c_need_phase hr (by decide) (pa_cons (pv 0) (pa_cons (pv 1) pa_nil))))
 (pss_cons (ps_expr (pe_callC c_need_pattern hr (by decide) (pa_cons (pv 2) pa_nil)))
 (pss_cons (ps_expr (pe_callC c_need_phase hr (by decide) (pa_cons (pv 2) (pa_cons (pv 3) pa_nil))))
 (pss_one (ps_ret (pe_callC c_first_of hr (by decide) (pa_cons (pv 0) (pa_cons (pv 1) (pa_cons (pv 2) (pa_cons (pv 3) (pa_cons (pv 4) pa_nil)))))))))))), ?_⟩
    have hp1 := hp.hi
    have hq1 := hq.hi
    refine q_drop (v := .non) (ev_call (ea_cons (ev_var rfl) ea_nil) fun H1 e Q q E => ⟨p, rfl, hp, q⟩) fun H1 e1 => ?_
    refine q_drop (v := .non) (ev_call (ea_cons (ev_var rfl) (ea_cons (ev_var rfl) ea_nil)) fun H1 e Q q E => ⟨p, a, rfl, by omega, ha, q⟩) fun H2 e2 => ?_
    refine q_drop (v := .non) (ev_call (ea_cons (ev_var rfl) ea_nil) fun H1 e Q k E => ⟨q, rfl, hq, k⟩) fun H3 e3 => ?_
    refine q_drop (v := .non) (ev_call (ea_cons (ev_var rfl) (ea_cons (ev_var rfl) ea_nil)) fun H1 e Q k E => ⟨q, b, rfl, by omega, hb, k⟩) fun H4 e4 => ?_
    exact s_ret (v := oV (first p q l a b)) (ev_call (ea_cons (ev_var rfl) (ea_cons (ev_var rfl) (ea_cons (ev_var rfl) (ea_cons (ev_var rfl) (ea_cons (ev_var rfl) ea_nil)))))
      fun H1 e Q k E => ⟨p, q, a, b, l, rfl, ⟨by omega, by omega⟩, ⟨by omega, by omega⟩, k⟩) fun H5 e5 => k H5 ((((e1.trans e2).trans e3).trans e4).trans e5)
/-! ### worst_of -/
abbrev s_worst_of : Stmt := topS 24
theorem sc_worst_of : FnScope ["one", "other", "loose", "best", "a", "b", "moment"] ["one", "other", "loose"] (defScope s_worst_of) := ⟨rfl, rfl, rfl, by decide +kernel, rfl, by decide +kernel, by decide +kernel⟩
/-- the best so far, as a value -/
def isBest (K : PySem.W.Frag) (H : Hp) (v : V) : Option Row → Prop
  | none => v = .non
  | some r => r.1 ≠ none ∧ Is K H v (cRow r)
theorem isBest.up {H H' : Hp} {v : V} {o : Option Row} (h : isBest K H v o) (e : Ex H H') : isBest K H' v o := by
  cases o with
  | none => exact h
  | some r => exact ⟨h.1, h.2.up e⟩
theorem allMeet_app {a b : List Row} : allMeet (a ++ b) ↔ allMeet a ∧ allMeet b :=
  ⟨fun h => ⟨fun r hr => h r (List.mem_append_left _ hr), fun r hr => h r (List.mem_append_right _ hr)⟩, fun h r hr => (List.mem_append.mp hr).elim (h.1 r) (h.2 r)⟩
theorem ok_worst_of (D : Def1 K mg "worst_of" s_worst_of) (B : Bl mg) (c_first_of : Cal P w K mg base 2 "first_of" ["one", "a", "other", "b", "loose"] spFirst) : Cal P w K mg base 3 "worst_of" ["one", "other", "loose"] (spWorst K) := by
  refine D.cal sc_worst_of (fun _ _ _ _ _ _ us hl => match us, hl with | [_, _, _], _ => rfl) (fun vs H Q E h => ?_) (fun f cdv A outer s H vs Q E hr h => ?_)
  · obtain ⟨p, q, l, rfl, _⟩ := h
    rfl
  · obtain ⟨p, q, l, rfl, ⟨hp, hp2⟩, ⟨hq, hq2⟩, k⟩ := h
    refine ⟨_, (pss_cons (ps_set (i := 3) sc_worst_of.nd rfl (Or.inl rfl) pe_non)
 (pss_cons (ps_for PassesOwn.never rfl (pi_range1 (by rfl) B.range (pa_cons (pe_callB call_len_str (by rfl) B.len PySem.boot_len (pa_cons (pv 0) pa_nil)) pa_nil)) (pg_name (i := 4) sc_worst_of.nd rfl (Or.inl rfl))
 (pss_one (ps_for PassesOwn.never rfl (pi_range1 (by rfl) B.range (pa_cons (pe_callB call_len_str (by rfl) B.len PySem.boot_len (pa_cons (pv 1) pa_nil)) pa_nil)) (pg_name (i := 5) sc_worst_of.nd rfl (Or.inl rfl))
 (pss_cons (ps_set (i := 6) sc_worst_of.nd rfl (Or.inl rfl) (pe_callC c_first_of hr (by decide) (pa_cons (pv 0) (pa_cons (pv 4) (pa_cons (pv 1) (pa_cons (pv 5) (pa_cons (pv 2) pa_nil)))))))
 (pss_cons (ps_if (pt_cmpR op_isN (pv 6) pe_non (nomark _)) (pss_one (ps_ret (pe_tup (pa_cons pe_non (pa_cons (pv 4) (pa_cons (pv 5) pa_nil))))))
 pss_nil)
 (pss_one (ps_if (PW.pt (pw_or (pt_cmpR op_isN (pv 3) pe_non (nomark _)) (pw_or1 (pt_cmpR op_gt (pv 6) (pe_ix ix_tup (pv 3) pe_int (fun _ _ => rfl)) (nomark _))))) (pss_one (ps_set (i := 3) sc_worst_of.nd rfl (Or.inl rfl) (pe_tup (pa_cons (pv 6) (pa_cons (pv 4) (pa_cons (pv 5) pa_nil))))))
 pss_nil)))))))
 (pss_one (ps_ret (pv 3))))), ?_⟩
    refine q_asg (v := .non) ev_c fun H1 e1 => ?_
    refine q_forR1 (n := ((p.length : Nat) : Int)) (ea_cons (ev_lenS (p := p) (ev_var rfl) (by omega)) ea_nil) (by omega)
      (fun a σ H' => (∃ v y4 y5 y6, σ = [some (.str (txt p)), some (.str (txt q)), some (.bl l), some v, y4, y5, y6] ∧ isBest K H' v ((upto p q l a).foldl stp none)) ∧ Ex H H' ∧ allMeet (upto p q l a))
      (fun H2 e2 => ⟨⟨.non, _, _, _, rfl, rfl⟩, e1.trans e2, fun r hr => nomatch hr⟩) (fun a σ' H' ha pr => ?_) (fun σ' H' pr => ?_)
    · obtain ⟨⟨v, y4, y5, y6, rfl, hv⟩, e, hm⟩ := pr
      refine s_forR1 (n := ((q.length : Nat) : Int)) (ea_cons (ev_lenS (p := q) (ev_var rfl) (by omega)) ea_nil) (by omega)
        (fun b σ H'' => (∃ v y5 y6, σ = [some (.str (txt p)), some (.str (txt q)), some (.bl l), some v, some (.int (a : Nat)), y5, y6] ∧ isBest K H'' v ((upto p q l a ++ rowA p q l a b).foldl stp none)) ∧ Ex H H'' ∧ allMeet (upto p q l a ++ rowA p q l a b))
        (fun H2 e2 => ⟨⟨v, _, _, rfl, by
          have : upto p q l a ++ rowA p q l a 0 = upto p q l a := by simp [rowA]
          rw [this]
          exact hv.up e2⟩, e.trans e2, by
          have : upto p q l a ++ rowA p q l a 0 = upto p q l a := by simp [rowA]
          rw [this]
          exact hm⟩) (fun b σ'' H'' hb pr => ?_) (fun σ'' H'' pr => ?_)
      · obtain ⟨⟨v, y5, y6, rfl, hv⟩, e, hm⟩ := pr
        refine q_asg (v := oV (first p q l a b)) (ev_call (ea_cons (ev_var rfl) (ea_cons (ev_var rfl) (ea_cons (ev_var rfl) (ea_cons (ev_var rfl) (ea_cons (ev_var rfl) ea_nil))))) fun H1 e Q k E => ⟨p, q, a, b, l, rfl, ⟨hp, hp2⟩, ⟨hq, hq2⟩, k⟩) fun H3 e3 => ?_
        refine q_when (b := (first p q l a b).isNone) (et_is (et_test (ev_isN (ev_var rfl))) (oV_is _)) (fun hn H4 e4 => ?_) (fun hn H4 e4 => ?_)
        · have hf : first p q l a b = none := by simpa using hn
          refine s_retC (K := K) (c := cRow (none, a, b)) (ec_tup (ea_cons ev_c (ea_cons (ev_var rfl) (ea_cons (ev_var rfl) ea_nil))) (by show 3 ≤ 1000; decide)) fun w H5 e5 i5 => ?_
          have hw := worst_never (p := p) (q := q) (l := l) (a := a) (b := b) (by omega) (by omega) (allMeet_app.mp hm).1 (allMeet_app.mp hm).2 hf
          have := k w H5 (((e.trans e3).trans e4).trans e5)
          rw [hw] at this
          exact this i5
        · obtain ⟨m, hf⟩ : ∃ m, first p q l a b = some m := by
            cases h : first p q l a b with
            | none => rw [h] at hn; cases hn
            | some m => exact ⟨m, rfl⟩
          have hv4 := (hv.up e3).up e4
          have hstep : (upto p q l a ++ rowA p q l a (b + 1)).foldl stp none = stp ((upto p q l a ++ rowA p q l a b).foldl stp none) (some m, a, b) := by
            rw [rowA_succ, ← List.append_assoc, List.foldl_append, hf]
            rfl
          have hmeet : allMeet (upto p q l a ++ rowA p q l a (b + 1)) := by
            rw [rowA_succ, ← List.append_assoc]
            refine allMeet_app.mpr ⟨hm, fun r hr => ?_⟩
            have : r = (first p q l a b, a, b) := by simpa using hr
            rw [this, hf]
            exact fun h => nomatch h
          have hE : Ex H H4 := (e.trans e3).trans e4
          cases hbest : (upto p q l a ++ rowA p q l a b).foldl stp none with
          | none =>
            rw [hbest] at hv4 hstep
            have hvn : v = .non := hv4
            subst hvn
            refine s_when (b := true) (et_is (et_or (a := true) (b := true) (et_is (et_test (ev_isN (x := .non) (ev_var rfl))) rfl) (fun h => nomatch h)) rfl) (fun _ H5 e5 => ?_) (fun h => nomatch h)
            refine s_asgC (K := K) (c := .t [oV (first p q l a b), .int (a : Nat), .int (b : Nat)]) (ec_tup (ea_cons (ev_var rfl) (ea_cons (ev_var rfl) (ea_cons (ev_var rfl) ea_nil))) (by show 3 ≤ 1000; decide)) fun w H6 e6 i6 => ?_
            rw [hf] at i6
            refine ⟨⟨w, _, _, rfl, ?_⟩, (hE.trans e5).trans e6, hmeet⟩
            rw [hstep]
            exact ⟨(fun h => nomatch h), i6⟩
          | some r =>
            rw [hbest] at hv4 hstep
            obtain ⟨hr1, hr2⟩ := hv4
            obtain ⟨o, ra, rb⟩ := r
            obtain ⟨m0, rfl⟩ : ∃ m0, o = some m0 := by
              cases o with
              | none => exact absurd rfl hr1
              | some m0 => exact ⟨m0, rfl⟩
            obtain ⟨t, rfl, ht⟩ := id hr2
            refine s_when (b := decide (m0 < m)) (et_is (et_or (a := false) (b := decide (((m0 : Nat) : Int) < (m : Nat))) (et_is (et_test (ev_isN (x := .ref t) (ev_var rfl))) rfl) (fun _ => et_test (ev_op (x := .int (m : Nat)) (ev_is (ev_var rfl) (by rw [hf]; rfl)) (ev_ixC (i := 0) (K := K) (ec_var rfl hr2) ev_c rfl) rv_I0))) (by rw [Bool.false_or]; exact decide_eq_decide.mpr (by omega))) (fun hb5 H5 e5 => ?_) (fun hb5 H5 e5 => ?_)
            · refine s_asgC (K := K) (c := .t [oV (first p q l a b), .int (a : Nat), .int (b : Nat)]) (ec_tup (ea_cons (ev_var rfl) (ea_cons (ev_var rfl) (ea_cons (ev_var rfl) ea_nil))) (by show 3 ≤ 1000; decide)) fun w H6 e6 i6 => ?_
              rw [hf] at i6
              refine ⟨⟨w, _, _, rfl, ?_⟩, (hE.trans e5).trans e6, hmeet⟩
              rw [hstep]
              have : stp (some (some m0, ra, rb)) (some m, a, b) = some (some m, a, b) := if_pos (of_decide_eq_true hb5)
              rw [this]
              exact ⟨(fun h => nomatch h), i6⟩
            · refine ⟨⟨_, _, _, rfl, ?_⟩, hE.trans e5, hmeet⟩
              rw [hstep]
              have : stp (some (some m0, ra, rb)) (some m, a, b) = some (some m0, ra, rb) := if_neg (of_decide_eq_false hb5)
              rw [this]
              exact ⟨hr1, hr2.up e5⟩
      · obtain ⟨⟨v, y5, y6, rfl, hv⟩, e, hm⟩ := pr
        have e0 : upto p q l a ++ rowA p q l a (((q.length : Nat) : Int)).toNat = upto p q l (a + 1) := by rw [upto_succ]; rfl
        rw [e0] at hv hm
        exact ⟨⟨v, _, _, _, rfl, hv⟩, e, hm⟩
    · obtain ⟨⟨v, y4, y5, y6, rfl, hv⟩, e, hm⟩ := pr
      have hm : allMeet (rows p q l) := hm
      have hv : isBest K H' v ((rows p q l).foldl stp none) := hv
      have hw := worst_all hm
      have hne : rows p q l ≠ [] := by
        have := worst_mem (p := p) (q := q) (l := l) hp hq
        intro h
        rw [h] at this
        cases this
      cases hb : (rows p q l).foldl stp none with
      | none =>
        cases hr : rows p q l with
        | nil => exact absurd hr hne
        | cons r rs =>
          rw [hr, List.foldl_cons] at hb
          have hb : rs.foldl stp (some r) = none := hb
          rw [foldl_best] at hb
          cases hb
      | some r =>
        rw [hb] at hv hw
        have hw : worst p q l = r := hw
        refine s_retC (K := K) (ec_var rfl hv.2) fun u H2 e2 i2 => ?_
        have := k u H2 (e.trans e2)
        rw [hw] at this
        exact this i2
/-! ### worst -/
abbrev s_worst : Stmt := topS 25
theorem sc_worst : FnScope ["one", "other", "loose"] ["one", "other", "loose"] (defScope s_worst) := ⟨rfl, rfl, rfl, by decide +kernel, rfl, by decide +kernel, by decide +kernel⟩
def spWorstP (K : PySem.W.Frag) : Sp := fun vs H Q _ => ∃ (p q : List Bool) (l : Bool), vs = [.str (txt p), .str (txt q), .bl l] ∧ Pat 12 p ∧ Pat 12 q ∧ RetC K (cRow (worst p q l)) H Q
theorem ok_worst (D : Def1 K mg "worst" s_worst) (c_need_pattern : Cal P w K mg base 2 "need_pattern" ["pattern"] spNeedP) (c_worst_of : Cal P w K mg base 3 "worst_of" ["one", "other", "loose"] (spWorst K)) : Cal P w K mg base 4 "worst" ["one", "other", "loose"] (spWorstP K) := by
  refine D.cal sc_worst (fun _ _ _ _ _ _ us hl => match us, hl with | [_, _, _], _ => rfl) (fun vs H Q E h => ?_) (fun f cdv A outer s H vs Q E hr h => ?_)
  · obtain ⟨p, q, l, rfl, _⟩ := h
    rfl
  · obtain ⟨p, q, l, rfl, hp, hq, k⟩ := h
    refine ⟨_, (pss_cons (ps_expr (pe_callC c_need_pattern hr (by decide) (pa_cons (pv 0) pa_nil)))
 (pss_cons (ps_expr (pe_callC c_need_pattern hr (by decide) (pa_cons (pv 1) pa_nil)))
 (pss_one (ps_ret (pe_callC c_worst_of hr (by decide) (pa_cons (pv 0) (pa_cons (pv 1) (pa_cons (pv 2) pa_nil)))))))), ?_⟩
    have hp1 := hp.hi
    have hq1 := hq.hi
    have hp0 := hp.lo
    have hq0 := hq.lo
    refine q_drop (v := .non) (ev_call (ea_cons (ev_var rfl) ea_nil) fun H1 e Q k E => ⟨p, rfl, hp, k⟩) fun H1 e1 => ?_
    refine q_drop (v := .non) (ev_call (ea_cons (ev_var rfl) ea_nil) fun H1 e Q k E => ⟨q, rfl, hq, k⟩) fun H2 e2 => ?_
    exact s_retC (K := K) (ec_call (c := cRow (worst p q l)) (ea_cons (ev_var rfl) (ea_cons (ev_var rfl) (ea_cons (ev_var rfl) ea_nil))) fun H1 e Q k => ⟨p, q, l, rfl, ⟨by omega, by omega⟩, ⟨by omega, by omega⟩, k⟩) fun v H3 e3 i3 => k v H3 ((e1.trans e2).trans e3) i3
end
end Bm
namespace Bm
open PySem PySem.Spec PyProof.Rows L2 Evl
section
variable {P : Program} {w : World} {K : PySem.W.Frag} {mg : PySem.Str → Option Value} {base : Heap}
/-! ### all_of -/
abbrev s_all_of : Stmt := topS 18
theorem sc_all_of : FnScope ["beats", "many", "found", "at", "longer", "text", "ones"] ["beats", "many"] (defScope s_all_of) := ⟨rfl, rfl, rfl, by decide +kernel, rfl, by decide +kernel, by decide +kernel⟩
def spAllOf : Sp := fun vs H Q _ => ∃ n m : Nat, vs = [.int (n : Nat), .int (m : Nat)] ∧ n ≤ 12 ∧ m ≤ n ∧ RetL (txV (allOf n m)) H Q
theorem ok_all_of (D : Def1 K mg "all_of" s_all_of) (B : Bl mg) (g_AWAKE : ∃ t, mg "AWAKE" = some (.str "1" t)) (g_ASLEEP : ∃ t, mg "ASLEEP" = some (.str "0" t)) : Cal P w K mg base 1 "all_of" ["beats", "many"] spAllOf := by
  refine D.cal sc_all_of (fun _ _ _ _ _ _ us hl => match us, hl with | [_, _], _ => rfl) (fun vs H Q E h => ?_) (fun f cdv A outer s H vs Q E hr h => ?_)
  · obtain ⟨n, m, rfl, _⟩ := h
    rfl
  · obtain ⟨n, m, rfl, hn, hm, k⟩ := h
    refine ⟨_, (pss_cons (ps_set (i := 2) sc_all_of.nd rfl (Or.inl rfl) (pe_lst (pa_cons pe_str pa_nil)))
 (pss_cons (ps_for PassesOwn.never rfl (pi_range1 (by rfl) B.range (pa_cons (pv 0) pa_nil)) (pg_name (i := 3) sc_all_of.nd rfl (Or.inl rfl))
 (pss_cons (ps_set (i := 4) sc_all_of.nd rfl (Or.inl rfl) (pe_lst pa_nil))
 (pss_cons (ps_for PassesOwn.never rfl (pi_list (pv 2)) (pg_name (i := 5) sc_all_of.nd rfl (Or.inl rfl))
 (pss_cons (ps_set (i := 6) sc_all_of.nd rfl (Or.inl rfl) (pe_m1 PySem.F.slot_str_count PySem.F.type_str_count mt_count (pv 5) (pe_gS g_AWAKE)))
 (pss_cons (ps_if (pt_cmpR op_lt (pe_op op_sub (pv 1) (pv 6)) (pe_op op_sub (pv 0) (pv 3)) (nomark _)) (pss_one (ps_expr (pe_bm PySem.F.plainAttrs_list PySem.F.slot_list_append PySem.F.type_list_append mt_append (pv 4) (pa_cons (pe_op op_add_str (pv 5) (pe_gS g_ASLEEP)) pa_nil))))
 pss_nil)
 (pss_one (ps_if (pt_cmpR op_lt (pv 6) (pv 1) (nomark _)) (pss_one (ps_expr (pe_bm PySem.F.plainAttrs_list PySem.F.slot_list_append PySem.F.type_list_append mt_append (pv 4) (pa_cons (pe_op op_add_str (pv 5) (pe_gS g_AWAKE)) pa_nil))))
 pss_nil)))))
 (pss_one (ps_set (i := 2) sc_all_of.nd rfl (Or.inl rfl) (pv 4))))))
 (pss_one (ps_ret (pv 2))))), ?_⟩
    refine q_asgL (xs := [.str ""]) (el_lst (ea_cons ev_c ea_nil) (by show 1 ≤ 100000; decide)) fun F0 H1 hF0 e1 h1 => ?_
    refine q_forR1 (n := ((n : Nat) : Int)) (ea_cons (ev_var rfl) ea_nil) (by omega)
      (fun j σ H' => (∃ FL y3 y4 y5 y6, σ = [some (.int (n : Nat)), some (.int (m : Nat)), some (.ref FL), y3, y4, y5, y6] ∧ H FL = none ∧ H' FL = some (.lst (txV (stg n m j)))) ∧ Ex H H')
      (fun H2 e2 => ⟨⟨F0, _, _, _, _, rfl, hF0, by rw [stg_zero hm]; exact e2 _ _ h1⟩, e1.trans e2⟩) (fun j σ' H' hj pr => ?_) (fun σ' H' pr => ?_)
    · obtain ⟨⟨FL, y3, y4, y5, y6, rfl, hFL, hF⟩, e⟩ := pr
      have hj' : j < n := by omega
      refine q_asgL (xs := []) (el_lst ea_nil (Nat.zero_le _)) fun LL H2 hLL e2 h2 => ?_
      have hne : FL ≠ LL := ne_of_none hF hLL
      have hLL0 : H LL = none := fresh_back e hLL
      refine q_forL (K := K) (a := FL) (xs := txV (stg n m j)) (ev_var rfl) (sq_of (e2 _ _ hF))
        (fun i σ H3 => (∃ y5 y6, σ = [some (.int (n : Nat)), some (.int (m : Nat)), some (.ref FL), some (.int (j : Nat)), some (.ref LL), y5, y6]) ∧ Ex H H3 ∧ H3 FL = some (.lst (txV (stg n m j))) ∧ H3 LL = some (.lst (txV (((stg n m j).take i).flatMap (kids n m j)))))
        (fun H3 e3 => ⟨⟨_, _, rfl⟩, (e.trans e2).trans e3, e3 _ _ (e2 _ _ hF), e3 _ _ h2⟩) (fun i σ3 H3 _ pr => sq_of pr.2.2.1) (fun i x σ3 H3 hx pr => ?_) (fun σ3 H3 pr => ?_)
      · obtain ⟨⟨y5, y6, rfl⟩, e3, hF3, hL3⟩ := pr
        have hi : i < (stg n m j).length := by
          have := (List.getElem?_eq_some_iff.mp hx).1
          rw [List.length_map] at this
          exact this
        have hx : x = .str (txt (stg n m j)[i]) := by
          rw [List.getElem?_map, List.getElem?_eq_getElem hi] at hx
          exact (Option.some.inj hx).symm
        subst hx
        have hst : (stg n m j).take (i + 1) = (stg n m j).take i ++ [(stg n m j)[i]] := by
          rw [List.take_add_one, List.getElem?_eq_getElem hi]
          rfl
        obtain ⟨t1, t2, t3⟩ := stg_mem (List.getElem_mem hi)
        generalize (stg n m j)[i] = t at hst t1 t2 t3
        have hfl : (((stg n m j).take i).flatMap (kids n m j)).length ≤ 10000 := by
          have h1 : ∀ l : List (List Bool), (l.flatMap (kids n m j)).length ≤ l.length * 2 := by
            intro l
            induction l with
            | nil => exact Nat.le_refl _
            | cons a l ih =>
              rw [List.flatMap_cons, List.length_append, List.length_cons]
              have : (kids n m j a).length ≤ 2 := by
                unfold kids
                split <;> split <;> simp
              omega
          have h2 := h1 ((stg n m j).take i)
          have h3 := stg_len (n := n) (m := m) (k := j) (by omega)
          rw [List.length_take] at h2
          omega
        show tSeq _ _ _ _ _
        refine q_asg (v := .int (ct t : Nat)) (ev_count (ev_var rfl) ev_c) fun H4 e4 => ?_
        have hk : kids n m j t = (if m + j < n + ct t then [t ++ [false]] else []) ++ (if ct t < m then [t ++ [true]] else []) := rfl
        -- the second one
        have fin : ∀ (H5 : Hp) (xs : List (List Bool)), Ex H H5 → H5 FL = some (.lst (txV (stg n m j))) → H5 LL = some (.lst (txV xs)) → xs.length ≤ 10001 → (xs ++ (if ct t < m then [t ++ [true]] else []) = ((stg n m j).take (i + 1)).flatMap (kids n m j)) → ∀ EE : Ends, EE.nx = (fun σ H3 => (∃ y5 y6, σ = [some (.int (n : Nat)), some (.int (m : Nat)), some (.ref FL), some (.int (j : Nat)), some (.ref LL), y5, y6]) ∧ Ex H H3 ∧ H3 FL = some (.lst (txV (stg n m j))) ∧ H3 LL = some (.lst (txV (((stg n m j).take (i + 1)).flatMap (kids n m j))))) →
            tIfS (tTest (tOp (rI0 fun i j => .bl (decide (i < j))) (tVar 6) (tVar 1))) (tDrop (tBM K "list" rAppend (tVar 4) (tCons (tOp rAddS (tVar 5) (tC (.str "1"))) tNil))) tNext EE [some (.int (n : Nat)), some (.int (m : Nat)), some (.ref FL), some (.int (j : Nat)), some (.ref LL), some (.str (txt t)), some (.int (ct t : Nat))] H5 := fun H5 xs e5 hF5 hL5 hxs hq EE hEE => by
          refine s_when (b := decide (ct t < m)) (et_is (et_test (ev_op (ev_var rfl) (ev_var rfl) rv_I0)) (decide_eq_decide.mpr (by omega))) (fun hb H6 e6 => ?_) (fun hb H6 e6 => ?_)
          · rw [if_pos (of_decide_eq_true hb)] at hq
            have h1 : ∀ H7, Ev (tC (.str "1")) [some (.int (n : Nat)), some (.int (m : Nat)), some (.ref FL), some (.int (j : Nat)), some (.ref LL), some (.str (txt t)), some (.int (ct t : Nat))] H7 (.str (txt [true])) := fun _ => ev_c
            refine s_app (K := K) (e6 _ _ hL5) (ev_var rfl) (v := .str (txt (t ++ [true]))) (ev_addS (ev_var rfl) (h1 _) (by simp; omega)) (by rw [List.length_map]; omega) fun H7 e7 => ?_
            rw [hEE]
            refine ⟨⟨_, _, rfl⟩, Ex.mut ((e5.trans e6).trans e7) hLL0, by rw [upd_ne hne]; exact e7 _ _ (e6 _ _ hF5), ?_⟩
            rw [upd_same, ← hq]
            simp [txV]
          · rw [if_neg (of_decide_eq_false hb), List.append_nil] at hq
            rw [hEE]
            exact ⟨⟨_, _, rfl⟩, e5.trans e6, e6 _ _ hF5, by rw [← hq]; exact e6 _ _ hL5⟩
        have hq : ((stg n m j).take (i + 1)).flatMap (kids n m j) = ((stg n m j).take i).flatMap (kids n m j) ++ kids n m j t := by
          rw [hst, List.flatMap_append]
          simp
        refine q_when (b := decide (m + j < n + ct t)) (et_is (et_test (ev_op (ev_op (ev_var rfl) (ev_var rfl) rv_I0) (ev_op (ev_var rfl) (ev_var rfl) rv_I0) rv_I0)) (decide_eq_decide.mpr (by omega))) (fun hb H5 e5 => ?_) (fun hb H5 e5 => ?_)
        · have h0 : ∀ H7, Ev (tC (.str "0")) [some (.int (n : Nat)), some (.int (m : Nat)), some (.ref FL), some (.int (j : Nat)), some (.ref LL), some (.str (txt t)), some (.int (ct t : Nat))] H7 (.str (txt [false])) := fun _ => ev_c
          refine s_app (K := K) (e5 _ _ (e4 _ _ hL3)) (ev_var rfl) (v := .str (txt (t ++ [false]))) (ev_addS (ev_var rfl) (h0 _) (by simp; omega)) (by rw [List.length_map]; omega) fun H6 e6 => ?_
          refine fin _ (((stg n m j).take i).flatMap (kids n m j) ++ [t ++ [false]]) (Ex.mut (((e3.trans e4).trans e5).trans e6) hLL0) (by rw [upd_ne hne]; exact e6 _ _ (e5 _ _ (e4 _ _ hF3))) (by rw [upd_same]; simp [txV]) (by rw [List.length_append]; show _ + 1 ≤ 10001; omega) ?_ _ rfl
          rw [hq, hk, if_pos (of_decide_eq_true hb)]
          simp
        · refine fin _ (((stg n m j).take i).flatMap (kids n m j)) ((e3.trans e4).trans e5) (e5 _ _ (e4 _ _ hF3)) (e5 _ _ (e4 _ _ hL3)) (by omega) ?_ _ rfl
          rw [hq, hk, if_neg (of_decide_eq_false hb)]
          simp
      · obtain ⟨⟨y5, y6, rfl⟩, e3, hF3, hL3⟩ := pr
        have e0 : ((stg n m j).take (txV (stg n m j)).length).flatMap (kids n m j) = stg n m (j + 1) := by
          rw [List.take_of_length_le (by simp), stg_succ]
        rw [e0] at hL3
        exact s_asg (v := .ref LL) (ev_var rfl) fun H4 e4 => ⟨⟨LL, _, _, _, _, rfl, hLL0, e4 _ _ hL3⟩, e3.trans e4⟩
    · obtain ⟨⟨FL, y3, y4, y5, y6, rfl, hFL, hF⟩, e⟩ := pr
      have hF : H' FL = some (.lst (txV (allOf n m))) := by
        rw [← stg_end]
        exact hF
      exact s_ret (v := .ref FL) (ev_var rfl) fun H2 e2 => k FL H2 hFL (e.trans e2) (e2 _ _ hF)
end
end Bm
namespace Bm
open PySem PySem.Spec PyProof.Rows L2 Evl
section
variable {P : Program} {w : World} {K : PySem.W.Frag} {mg : PySem.Str → Option Value} {base : Heap}
/-! ### lacking -/
abbrev s_lacking : Stmt := topS 29
theorem sc_lacking : FnScope ["pattern", "some", "by", "at"] ["pattern"] (defScope s_lacking) := ⟨rfl, rfl, rfl, by decide +kernel, rfl, by decide +kernel, by decide +kernel⟩
def spLack : Sp := fun vs H Q _ => ∃ p : List Bool, vs = [.str (txt p)] ∧ (0 < p.length ∧ p.length ≤ 100) ∧ RetV (oV (lackM p)) H Q
theorem ok_lacking (D : Def1 K mg "lacking" s_lacking) (B : Bl mg) (c_awake_of : Cal P w K mg base 1 "awake_of" ["pattern"] spOnes) : Cal P w K mg base 2 "lacking" ["pattern"] spLack := by
  refine D.cal sc_lacking (fun _ _ _ _ _ _ us hl => match us, hl with | [_], _ => rfl) (fun vs H Q E h => ?_) (fun f cdv A outer s H vs Q E hr h => ?_)
  · obtain ⟨p, rfl, _⟩ := h
    rfl
  · obtain ⟨p, rfl, ⟨hp, hp2⟩, k⟩ := h
    refine ⟨_, (pss_cons (ps_set (i := 1) sc_lacking.nd rfl (Or.inr rfl) (pe_callC c_awake_of hr (by decide) (pa_cons (pv 0) pa_nil)))
 (pss_cons (ps_for PassesOwn.never rfl (pi_range1 (by rfl) B.range (pa_cons (pe_callB call_len_str (by rfl) B.len PySem.boot_len (pa_cons (pv 0) pa_nil)) pa_nil)) (pg_name (i := 2) sc_lacking.nd rfl (Or.inr rfl))
 (pss_one (ps_if (pt_cmpR (op_eqD hr.units) (pe_lc (own := [("at", 3)]) (g := gName 3) rfl sc_lacking.nd (pi_list (pv 1)) (blkOk_by (N := ["pattern", "some", "by", "at"]) (sc := defScope s_lacking) (by decide +kernel)) (fun _ _ _ _ _ => (pg_name (i := 3) sc_lacking.nd rfl (Or.inl rfl))) (fun _ _ _ _ _ => (pts_one (pt_cmpR (r := rIn K false) op_in_seq (pe_op op_mod (pe_op op_add (pv 3) (pv 2)) (pe_callB call_len_str (by rfl) B.len PySem.boot_len (pa_cons (pv 0) pa_nil))) (pv 1) (by rfl)))) (fun _ _ _ _ _ => (pv 3))) (pe_lst pa_nil) (nomark _)) (pss_one (ps_ret (pv 2)))
 pss_nil)))
 (pss_one (ps_ret pe_non)))), ?_⟩
    have hol := onesV_len p
    refine q_asgL (xs := onesV p) (el_call (ea_cons (ev_var rfl) ea_nil) fun H1 e Q k E => ⟨p, rfl, by omega, k⟩) fun S H1 hS e1 h1 => ?_
    refine q_forR1 (n := ((p.length : Nat) : Int)) (ea_cons (ev_lenS (p := p) (ev_var rfl) (by omega)) ea_nil) (by omega)
      (fun d σ H' => (∃ y2, σ = [some (.str (txt p)), some (.ref S), y2, none]) ∧ Ex H1 H' ∧ ∀ d', d' < d → hasD p d' = true)
      (fun H2 e2 => ⟨⟨_, rfl⟩, e2, fun d' h => absurd h (Nat.not_lt_zero _)⟩) (fun d σ' H' hd pr => ?_) (fun σ' H' pr => ?_)
    · obtain ⟨⟨y2, rfl⟩, e2, hm⟩ := pr
      have hd' : d < p.length := by omega
      have en := en_lcTL (K := K) (as := ones p) (c := fun (i : Nat) => cI ((i : Nat) : Int)) (t := tTest (tOp (rIn K false) (tOp (rI (fun _ j => 0 < j) fun i j => .int (i % j)) (tOp (rI0 fun i j => .int (i + j)) (tVar 3) (tVar 2)) (tCB rLenStr (tCons (tVar 0) tNil))) (tVar 1))) (te := tVar 3) (tl := tVar 1) (a := S) (xs := onesV p) (j := 3) (vs := [3]) (σ := [some (.str (txt p)), some (.ref S), some (.int (d : Nat)), none]) (H := H') (fun i => aw p (i + d)) (fun (i : Nat) => cI ((i : Nat) : Int)) (ev_var rfl) (sq_of (e2 _ _ h1)) (ones_all p) (by
          have : (onesV p).length = (ones p).length := by unfold onesV; rw [List.length_map]
          omega) (fun _ => rfl) (fun i hi x H3 e3 ix => by
          have hx : x = .int (i : Nat) := ix
          subst hx
          refine et_is (et_test (ev_op (ev_modN (ev_addN (ev_var rfl) (ev_var rfl)) (ev_lenS (p := p) (ev_var rfl) (by omega)) hp) (ev_var rfl) (rv_isL (K := K) (sq_of (e3 _ _ (e2 _ _ h1))) rfl (onesV_flat p)))) ?_
          exact in_onesV hp (i + d)) (fun i hi x H3 e3 ix _ => by
          have hx : x = .int (i : Nat) := ix
          subst hx
          exact ec_ev (ev_var rfl))
      have hT := et_test (ev_nilN (K := K) en (by rw [List.all_map, List.all_eq_true]; intro _ _; rfl))
      have e0 : (((ones p).filter fun i => aw p (i + d)).map fun (i : Nat) => cI ((i : Nat) : Int)).isEmpty = !hasD p d := by
        rw [List.isEmpty_map]
        unfold hasD
        cases h : (ones p).any fun i => aw p (i + d) with
        | true =>
          obtain ⟨i, hi, ha⟩ := List.any_eq_true.mp h
          have : i ∈ (ones p).filter fun i => aw p (i + d) := List.mem_filter.mpr ⟨hi, ha⟩
          cases hl : (ones p).filter fun i => aw p (i + d) with
          | nil => rw [hl] at this; cases this
          | cons _ _ => rfl
        | false =>
          have : (ones p).filter (fun i => aw p (i + d)) = [] := by
            rw [List.filter_eq_nil_iff]
            intro i hi ha
            have : (ones p).any (fun i => aw p (i + d)) = true := List.any_eq_true.mpr ⟨i, hi, ha⟩
            rw [h] at this
            cases this
          rw [this]
          rfl
      rw [e0] at hT
      refine s_when hT (fun hb H3 e3 => ?_) (fun hb H3 e3 => ?_)
      · have hf : lackM p = some d := find_range_is hd' hb fun i hi => by rw [hm i hi]; rfl
        refine s_ret (v := .int (d : Nat)) (ev_var rfl) fun H4 e4 => ?_
        have := k H4 (((e1.trans e2).trans e3).trans e4)
        rw [hf] at this
        exact this
      · refine ⟨⟨_, rfl⟩, e2.trans e3, fun d' hd2 => ?_⟩
        by_cases c : d' < d
        · exact hm d' c
        · have : d' = d := by omega
          rw [this]
          simpa using hb
    · obtain ⟨⟨y2, rfl⟩, e2, hm⟩ := pr
      have hf : lackM p = none := lack_none.mpr fun d hd => hm d (by omega)
      refine s_ret (v := .non) ev_c fun H3 e3 => ?_
      have := k H3 ((e1.trans e2).trans e3)
      rw [hf] at this
      exact this
/-! ### fewest -/
abbrev s_fewest : Stmt := topS 30
theorem sc_fewest : FnScope ["beats", "many", "pattern"] ["beats"] (defScope s_fewest) := ⟨rfl, rfl, rfl, by decide +kernel, rfl, by decide +kernel, by decide +kernel⟩
def spFew (K : PySem.W.Frag) : Sp := fun vs H Q _ => ∃ n : Nat, vs = [.int (n : Nat)] ∧ (1 ≤ n ∧ n ≤ 12) ∧ RetC K (cPart (fewestM n)) H Q
theorem ok_fewest (D : Def1 K mg "fewest" s_fewest) (B : Bl mg) (c_need_beats : Cal P w K mg base 1 "need_beats" ["beats"] spNeedB) (c_all_of : Cal P w K mg base 1 "all_of" ["beats", "many"] spAllOf) (c_lacking : Cal P w K mg base 2 "lacking" ["pattern"] spLack) :
    Cal P w K mg base 3 "fewest" ["beats"] (spFew K) := by
  refine D.cal sc_fewest (fun _ _ _ _ _ _ us hl => match us, hl with | [_], _ => rfl) (fun vs H Q E h => ?_) (fun f cdv A outer s H vs Q E hr h => ?_)
  · obtain ⟨n, rfl, _⟩ := h
    rfl
  · obtain ⟨n, rfl, ⟨hn1, hn2⟩, k⟩ := h
    refine ⟨_, (pss_cons (ps_expr (pe_callC c_need_beats hr (by decide) (pa_cons (pv 0) pa_nil)))
 (pss_cons (ps_for PassesOwn.never rfl (pi_range2 (by rfl) B.range (pa_cons pe_int (pa_cons (pe_op op_add (pv 0) pe_int) pa_nil))) (pg_name (i := 1) sc_fewest.nd rfl (Or.inl rfl))
 (pss_one (ps_for PassesOwn.never rfl (pi_list (pe_callC c_all_of hr (by decide) (pa_cons (pv 0) (pa_cons (pv 1) pa_nil)))) (pg_name (i := 2) sc_fewest.nd rfl (Or.inl rfl))
 (pss_one (ps_if (pt_cmpR op_isN (pe_callC c_lacking hr (by decide) (pa_cons (pv 2) pa_nil)) pe_non (nomark _)) (pss_one (ps_ret (pe_tup (pa_cons (pv 1) (pa_cons (pv 2) pa_nil)))))
 pss_nil)))))
 (pss_one (ps_ret pe_non)))), ?_⟩
    refine q_drop (v := .non) (ev_call (ea_cons (ev_var rfl) ea_nil) fun H1 e Q k E => ⟨n, rfl, hn1, hn2, k⟩) fun H2 e2 => ?_
    refine q_forR2 (lo := 1) (n := ((n + 1 : Nat) : Int)) (ea_cons ev_c (ea_cons (ev_addN (ev_var rfl) (ev_c (v := .int ((1 : Nat) : Int)))) ea_nil)) (by omega)
      (fun i σ H' => (∃ y3 y4, σ = [some (.int (n : Nat)), y3, y4]) ∧ Ex H H' ∧ ∀ y ∈ uptoP n i, (lackM y.2).isNone = false)
      (fun H4 e4 => ⟨⟨_, _, rfl⟩, e2.trans e4, fun y hy => nomatch hy⟩) (fun i σ' H' hi pr => ?_) (fun σ' H' pr => ?_)
    · obtain ⟨⟨y3, y4, rfl⟩, e, hm⟩ := pr
      have hi' : i < n := by omega
      have ei : (1 : Int) + (i : Nat) = ((i + 1 : Nat) : Int) := by omega
      rw [ei]
      refine s_forNL (K := K) (xs := txV (allOf n (i + 1))) (el_call (ea_cons (ev_var rfl) (ea_cons (ev_var rfl) ea_nil)) fun H1 e Q k E => ⟨n, i + 1, rfl, hn2, by omega, k⟩)
        (fun pl j σ H'' => (∃ y4, σ = [some (.int (n : Nat)), some (.int ((i + 1 : Nat) : Int)), y4]) ∧ Ex H H'' ∧ H'' pl = some (.lst (txV (allOf n (i + 1)))) ∧ ∀ u ∈ (allOf n (i + 1)).take j, (lackM u).isNone = false)
        (fun pl H4 _ e4 h4 => ⟨⟨_, rfl⟩, e.trans e4, h4, fun u hu => by simp at hu⟩) (fun pl j σ H'' _ pr => sq_of pr.2.2.1) (fun pl j x σ H'' hx pr => ?_) (fun pl σ H'' pr => ?_)
      · obtain ⟨⟨y4, rfl⟩, e4, h4, hu⟩ := pr
        obtain ⟨t, ht, htm, rfl⟩ := at_map hx
        obtain ⟨tl, tc⟩ := mem_allOf.mp htm
        refine s_when (b := (lackM t).isNone) (et_is (et_test (ev_isN (x := oV (lackM t)) (ev_call (ea_cons (ev_var rfl) ea_nil) fun H1 e Q k E => ⟨t, rfl, ⟨by omega, by omega⟩, k⟩))) (oV_is _)) (fun hb H5 e5 => ?_) (fun hb H5 e5 => ?_)
        · refine s_retC (K := K) (c := cPart (some (i + 1, t))) (ec_tup (ea_cons (ev_var rfl) (ea_cons (ev_var rfl) ea_nil)) (by show 2 ≤ 1000; decide)) fun v H6 e6 i6 => ?_
          have hf : fewestM n = some (i + 1, t) := find_allP hi' ht hm hu hb
          have := k v H6 ((e4.trans e5).trans e6)
          rw [hf] at this
          exact this i6
        · refine ⟨⟨_, rfl⟩, e4.trans e5, e5 _ _ h4, fun u hu' => ?_⟩
          rw [List.take_add_one, ht] at hu'
          rcases List.mem_append.mp hu' with h | h
          · exact hu u h
          · have : u = t := by simpa using h
            rw [this]
            exact hb
      · obtain ⟨⟨y4, rfl⟩, e4, h4, hu⟩ := pr
        refine ⟨⟨_, _, rfl⟩, e4, fun y hy => ?_⟩
        rw [uptoP_succ] at hy
        rcases List.mem_append.mp hy with h | h
        · exact hm y h
        · obtain ⟨u, hu', rfl⟩ := List.mem_map.mp h
          exact hu u (by rw [List.take_of_length_le (by simp)]; exact hu')
    · obtain ⟨⟨y3, y4, rfl⟩, e, hm⟩ := pr
      refine s_retC (K := K) (c := cPart none) (ec_ev ev_c) fun v H4 e4 i4 => ?_
      have en : (((n + 1 : Nat) : Int) - 1).toNat = n := by omega
      rw [en] at hm
      have hf : fewestM n = none := by
        unfold fewestM
        rw [List.find?_eq_none]
        intro y hy
        rw [hm y hy]
        decide
      have := k v H4 (e.trans e4)
      rw [hf] at this
      exact this i4
/-! ### beginning -/
abbrev s_beginning : Stmt := topS 31
theorem sc_beginning : FnScope ["beats", "many", "pattern"] ["beats", "many"] (defScope s_beginning) := ⟨rfl, rfl, rfl, by decide +kernel, rfl, by decide +kernel, by decide +kernel⟩
def spBeg (K : PySem.W.Frag) : Sp := fun vs H Q _ => ∃ n m : Nat, vs = [.int (n : Nat), .int (m : Nat)] ∧ (1 ≤ n ∧ n ≤ 12) ∧ m ≤ n ∧ RetN K ((begM n m).map cT) H Q
theorem ok_beginning (D : Def1 K mg "beginning" s_beginning) (B : Bl mg) (g_AWAKE : ∃ t, mg "AWAKE" = some (.str "1" t)) (c_all_of : Cal P w K mg base 1 "all_of" ["beats", "many"] spAllOf) : Cal P w K mg base 2 "beginning" ["beats", "many"] (spBeg K) := by
  refine D.cal sc_beginning (fun _ _ _ _ _ _ us hl => match us, hl with | [_, _], _ => rfl) (fun vs H Q E h => ?_) (fun f cdv A outer s H vs Q E hr h => ?_)
  · obtain ⟨n, m, rfl, _⟩ := h
    rfl
  · obtain ⟨n, m, rfl, ⟨hn1, hn2⟩, hm, k⟩ := h
    refine ⟨_, (pss_one (ps_ret (pe_lc (own := [("pattern", 2)]) (g := gName 2) rfl sc_beginning.nd (pi_list (pe_callC c_all_of hr (by decide) (pa_cons (pv 0) (pa_cons (pv 1) pa_nil)))) (blkOk_by (N := ["beats", "many", "pattern"]) (sc := defScope s_beginning) (by decide +kernel)) (fun _ _ _ _ _ => (pg_name (i := 2) sc_beginning.nd rfl (Or.inl rfl))) (fun _ _ _ _ _ => (pts_one (pt_cmpR op_eq (pe_ix ix_str (pv 2) pe_int (fun _ _ => rfl)) (pe_gS g_AWAKE) (nomark _)))) (fun _ _ _ _ _ => (pv 2))))), ?_⟩
    have hl : (allOf n m).length ≤ 4096 := by
      unfold allOf
      refine Nat.le_trans (List.length_filter_le _ _) ?_
      rw [lists_len]
      exact Nat.le_trans (Nat.pow_le_pow_right (by decide) hn2) (by decide)
    have en0 : EvN K (tCall spAllOf [] E0 (tCons (tVar 0) (tCons (tVar 1) tNil))) [some (.int (n : Nat)), some (.int (m : Nat)), none] H ((allOf n m).map cT) := by
      have := en_el (K := K) (xs := txV (allOf n m)) (el_call (σ := [some (.int (n : Nat)), some (.int (m : Nat)), none]) (H := H) (sp := spAllOf) (E := E0) (ta := tCons (tVar 0) (tCons (tVar 1) tNil)) (ea_cons (ev_var rfl) (ea_cons (ev_var rfl) ea_nil)) fun H1 e Q k E => ⟨n, m, rfl, hn2, hm, k⟩)
      rw [List.map_map] at this
      exact this
    refine s_retN (K := K) (cs := (begM n m).map cT) (en_lcTN (K := K) (as := allOf n m) (c := cT) (fun p => p.getD 0 false) cT en0 (by omega) (fun _ => rfl) (fun p hp x H1 e1 ix => ?_) (fun p hp x H1 e1 ix _ => ?_)) fun a xs H1 ha e1 h1 i1 => k a xs H1 ha e1 h1 i1
    · have hx : x = .str (txt p) := ix
      subst hx
      obtain ⟨pl, _⟩ := mem_allOf.mp hp
      exact et_test (ev_is1 (ev_ixP (i := 0) (ev_var rfl) ev_c (by omega) (by omega)) ev_c)
    · exact ec_var rfl ix
/-! ### paper -/
abbrev s_paper : Stmt := topS 32
theorem sc_paper : FnScope ["beats", "many", "pattern"] ["beats"] (defScope s_paper) := ⟨rfl, rfl, rfl, by decide +kernel, rfl, by decide +kernel, by decide +kernel⟩
def spPaper (K : PySem.W.Frag) : Sp := fun vs H Q _ => ∃ n : Nat, vs = [.int (n : Nat)] ∧ (1 ≤ n ∧ n ≤ 12) ∧ RetN K ((paperM n).map cSI) H Q
theorem ok_paper (D : Def1 K mg "paper" s_paper) (B : Bl mg) (c_fewest : Cal P w K mg base 3 "fewest" ["beats"] (spFew K)) (c_beginning : Cal P w K mg base 2 "beginning" ["beats", "many"] (spBeg K)) (c_lacking : Cal P w K mg base 2 "lacking" ["pattern"] spLack) :
    Cal P w K mg base 4 "paper" ["beats"] (spPaper K) := by
  refine D.cal sc_paper (fun _ _ _ _ _ _ us hl => match us, hl with | [_], _ => rfl) (fun vs H Q E h => ?_) (fun f cdv A outer s H vs Q E hr h => ?_)
  · obtain ⟨n, rfl, _⟩ := h
    rfl
  · obtain ⟨n, rfl, ⟨hn1, hn2⟩, k⟩ := h
    refine ⟨_, (pss_cons (ps_set (i := 1) sc_paper.nd rfl (Or.inl rfl) (pe_ix ix_tup (pe_callC c_fewest hr (by decide) (pa_cons (pv 0) pa_nil)) pe_int (fun _ _ => rfl)))
 (pss_one (ps_ret (pe_ifExp (pt_cmpR op_gt (pv 1) pe_int (nomark _)) (pe_lc (own := [("pattern", 2)]) (g := gName 2) rfl sc_paper.nd (pi_list (pe_callC c_beginning hr (by decide) (pa_cons (pv 0) (pa_cons (pe_op op_sub (pv 1) pe_int) pa_nil)))) (blkOk_by (N := ["beats", "many", "pattern"]) (sc := defScope s_paper) (by decide +kernel)) (fun _ _ _ _ _ => (pg_name (i := 2) sc_paper.nd rfl (Or.inl rfl))) (fun _ _ _ _ _ => pts_nil) (fun _ _ _ _ _ => (pe_tup (pa_cons (pv 2) (pa_cons (pe_callC c_lacking hr (by decide) (pa_cons (pv 2) pa_nil)) pa_nil))))) (pe_lst pa_nil))))), ?_⟩
    obtain ⟨x, hx⟩ := few_ex hn1
    obtain ⟨hxm, hxl⟩ := few_facts hx
    obtain ⟨xl, xc, x1⟩ := mem_allP.mp hxm
    have hcl : ct x.2 ≤ x.2.length := List.count_le_length
    refine q_asg (v := .int (x.1 : Nat)) (ev_ixC (K := K) (i := 0) (xs := [.int (x.1 : Nat), .str (txt x.2)]) (ec_call (ea_cons (ev_var rfl) ea_nil) fun H1 e Q k => ⟨n, rfl, ⟨hn1, hn2⟩, by rw [hx]; exact k⟩) ev_c rfl) fun H1 e1 => ?_
    refine s_retN (K := K) (cs := (paperM n).map cSI) (en_if (b := decide (1 < x.1)) (et_is (et_test (ev_op (ev_var rfl) ev_c rv_I0)) (decide_eq_decide.mpr (by omega))) (fun hb => ?_) (fun hb => ?_)) fun a xs H2 ha e2 h2 i2 => k a xs H2 (fresh_back e1 ha) (e1.trans e2) h2 i2
    · have hb := of_decide_eq_true hb
      have e0 : paperM n = paperOf n (x.1 - 1) := by
        unfold paperM
        rw [hx]
        exact if_pos hb
      have hbl := begM_len (n := n) (m := x.1 - 1) hn2
      have es : ((x.1 : Nat) : Int) - 1 = ((x.1 - 1 : Nat) : Int) := by omega
      have en := en_lcTN (K := K) (as := begM n (x.1 - 1)) (c := cT) (t := tYes) (te := tTup (tCons (tVar 2) (tCons (tCall spLack [] E0 (tCons (tVar 2) tNil)) tNil))) (tl := tCall (spBeg K) [] E0 (tCons (tVar 0) (tCons (tOp (rI0 fun i j => .int (i - j)) (tVar 1) (tC (.int 1))) tNil))) (j := 2) (vs := [2]) (σ := [some (.int (n : Nat)), some (.int (x.1 : Nat)), none]) (H := H1) (fun _ => true) (fun p => cSI (txt p, (((lackM p).getD 0 : Nat) : Int))) (en_call (ea_cons (ev_var rfl) (ea_cons (ev_is (ev_op (ev_var rfl) ev_c rv_I0) (congrArg V.int es)) ea_nil)) fun H1 e Q k => ⟨n, x.1 - 1, rfl, ⟨hn1, hn2⟩, by omega, k⟩) (by omega) (fun _ => rfl) (fun p hp y H3 e3 iy => et_yes) (fun p hp y H3 e3 iy _ => by
          have hy : y = .str (txt p) := iy
          subst hy
          obtain ⟨pl, pc, _⟩ := mem_begM.mp hp
          obtain ⟨d, hd⟩ := lack_less hx pl (by omega) (by omega)
          refine ec_tup (ea_cons (ev_var rfl) (ea_cons (ev_is (ev_call (ea_cons (ev_var rfl) ea_nil) fun H1 e Q k E => ⟨p, rfl, ⟨by omega, by omega⟩, k⟩) ?_) ea_nil)) (by show 2 ≤ 1000; decide)
          rw [hd]
          rfl)
      rw [List.filter_eq_self.mpr (fun _ _ => rfl)] at en
      rw [e0]
      unfold paperOf
      rw [List.map_map]
      exact en
    · have hb := of_decide_eq_false hb
      have e0 : paperM n = [] := by
        unfold paperM
        rw [hx]
        exact if_neg hb
      rw [e0]
      exact en_el (xs := []) (el_lst ea_nil (Nat.zero_le _))
end
end Bm
namespace Bm
open PySem PySem.Spec PyProof.Rows L2 Evl
section
variable {P : Program} {w : World} {K : PySem.W.Frag} {mg : PySem.Str → Option Value} {base : Heap}
/-! ### shows -/
abbrev s_shows : Stmt := topS 33
theorem sc_shows : FnScope ["beats", "many", "told", "pattern", "by", "some", "row", "at"] ["beats", "many", "told"] (defScope s_shows) := ⟨rfl, rfl, rfl, by decide +kernel, rfl, by decide +kernel, by decide +kernel⟩
def spShows (K : PySem.W.Frag) : Sp := fun vs H Q _ => ∃ (n m : Nat) (a : Addr) (xs : List V) (rs : List SI), vs = [.int (n : Nat), .int (m : Nat), .ref a] ∧ (1 ≤ n ∧ n ≤ 12) ∧ m ≤ n ∧ SqL K H a xs ∧ IsAll K H xs (rs.map cSI) ∧ rs.length ≤ 10000 ∧ (∀ r ∈ rs, PyData.strOk r.1 = true) ∧ RetV (.bl (showsM n m rs)) H Q
theorem cSI_ok {r : SI} (h : PyData.strOk r.1 = true) : okC (cSI r) = true := by
  show (PyData.strOk r.1 && (true && true)) = true
  rw [h]
  rfl
theorem shows_at {n m i : Nat} {rs : List SI} {p : List Bool} {r : SI} (hm : m ≠ 0) (hp : (begM n m)[i]? = some p) (hr : rs[i]? = some r) (hb : goodBy p r.2 = false) : showsM n m rs = false := by
  unfold showsM
  rw [if_neg hm, Bool.and_eq_false_iff]
  refine .inr ?_
  rw [List.all_eq_false]
  refine ⟨(p, r.2), List.mem_of_getElem? (i := i) (List.getElem?_zip_eq_some.mpr ⟨hp, ?_⟩), by rw [hb]; decide⟩
  rw [List.getElem?_map, hr]
  rfl
theorem ok_shows (D : Def1 K mg "shows" s_shows) (B : Bl mg) (c_need_beats : Cal P w K mg base 1 "need_beats" ["beats"] spNeedB) (c_beginning : Cal P w K mg base 2 "beginning" ["beats", "many"] (spBeg K)) (c_awake_of : Cal P w K mg base 1 "awake_of" ["pattern"] spOnes) :
    Cal P w K mg base 3 "shows" ["beats", "many", "told"] (spShows K) := by
  refine D.cal sc_shows (fun _ _ _ _ _ _ us hl => match us, hl with | [_, _, _], _ => rfl) (fun vs H Q E h => ?_) (fun f cdv A outer s H vs Q E hr h => ?_)
  · obtain ⟨n, m, a, xs, rs, rfl, _⟩ := h
    rfl
  · obtain ⟨n, m, a, xs, rs, rfl, ⟨hn1, hn2⟩, hm, hs, hi, hrl, hok, k⟩ := h
    refine ⟨_, (pss_cons (ps_expr (pe_callC c_need_beats hr (by decide) (pa_cons (pv 0) pa_nil)))
 (pss_cons (ps_if (pt_not (pt_chain op_le op_le pe_int (pv 1) (pv 0))) pss_never
 pss_nil)
 (pss_cons (ps_if (pt_cmpR op_eq (pv 1) pe_int (nomark _)) (pss_one (ps_ret (pe_cmpR (op_eqD hr.units) (pv 2) (pe_lst pa_nil) (nomark _))))
 pss_nil)
 (pss_cons (ps_if (pt_cmpR (op_neD hr.units) (pe_lc (own := [("row", 6)]) (g := gName 6) rfl sc_shows.nd (pi_list (pv 2)) (blkOk_by (N := ["beats", "many", "told", "pattern", "by", "some", "row", "at"]) (sc := defScope s_shows) (by decide +kernel)) (fun _ _ _ _ _ => (pg_name (i := 6) sc_shows.nd rfl (Or.inl rfl))) (fun _ _ _ _ _ => pts_nil) (fun _ _ _ _ _ => (pe_ix (r := rIxT K) ix_tup (pv 6) pe_int (fun _ _ => rfl)))) (pe_callC c_beginning hr (by decide) (pa_cons (pv 0) (pa_cons (pv 1) pa_nil))) (nomark _)) (pss_one (ps_ret pe_bl))
 pss_nil)
 (pss_cons (ps_for PassesOwn.never rfl (pi_list (pv 2)) (pg_tup rfl (pgs_cons (pg_name (i := 3) sc_shows.nd rfl (Or.inl rfl)) (pgs_cons (pg_name (i := 4) sc_shows.nd rfl (Or.inr rfl)) pgs_nil)))
 (pss_cons (ps_set (i := 5) sc_shows.nd rfl (Or.inr rfl) (pe_callC c_awake_of hr (by decide) (pa_cons (pv 3) pa_nil)))
 (pss_one (ps_if (PW.pt (pw_or (pt_not (pt_chain op_le op_lt pe_int (pv 4) (pv 0))) (pw_or1 (pt_cmpR (op_neD hr.units) (pe_lc (own := [("at", 7)]) (g := gName 7) rfl sc_shows.nd (pi_list (pv 5)) (blkOk_by (N := ["beats", "many", "told", "pattern", "by", "some", "row", "at"]) (sc := defScope s_shows) (by decide +kernel)) (fun _ _ _ _ _ => (pg_name (i := 7) sc_shows.nd rfl (Or.inl rfl))) (fun _ _ _ _ _ => (pts_one (pt_cmpR (r := rIn K false) op_in_seq (pe_op op_mod (pe_op op_add (pv 7) (pv 4)) (pv 0)) (pv 5) (by rfl)))) (fun _ _ _ _ _ => (pv 7))) (pe_lst pa_nil) (nomark _))))) (pss_one (ps_ret pe_bl))
 pss_nil))))
 (pss_one (ps_ret pe_bl))))))), ?_⟩
    refine q_drop (v := .non) (ev_call (ea_cons (ev_var rfl) ea_nil) fun H1 e Q k E => ⟨n, rfl, hn1, hn2, k⟩) fun H1 e1 => ?_
    refine q_when (b := false) (et_is (et_not (et_test (ev_chain (K := K) ev_c (ev_var rfl) (ev_var rfl) rv_I0 rv_I0))) ?_) (fun hb => nomatch hb) (fun _ H2 e2 => ?_)
    · have a1 : decide ((0 : Int) ≤ (m : Nat)) = true := decide_eq_true (by omega)
      have a2 : decide (((m : Nat) : Int) ≤ (n : Nat)) = true := decide_eq_true (by omega)
      show (!(decide ((0 : Int) ≤ (m : Nat)) && decide (((m : Nat) : Int) ≤ (n : Nat)))) = false
      rw [a1, a2]
      rfl
    · have e12 := e1.trans e2
      have hrok : (rs.map cSI).all okC = true := by
        rw [List.all_map, List.all_eq_true]
        intro r hr
        exact cSI_ok (hok r hr)
      refine q_when (b := decide (m = 0)) (et_is (et_test (ev_op (ev_var rfl) ev_c (rv_eq rfl))) ?_) (fun hb H3 e3 => ?_) (fun hb H3 e3 => ?_)
      · refine decide_eq_decide.mpr ⟨fun h => ?_, fun h => by rw [h]; rfl⟩
        have := V.int.inj h
        omega
      · refine s_ret (v := .bl (rs.map cSI).isEmpty) (ev_nilL (K := K) (ev_var rfl) (ex_l (e12.trans e3) hs) (hi.up (e12.trans e3)) hrok) fun H4 e4 => ?_
        have e0 : showsM n m rs = (rs.map cSI).isEmpty := by
          unfold showsM
          rw [if_pos (of_decide_eq_true hb), List.isEmpty_map]
        have := k H4 ((e12.trans e3).trans e4)
        rw [e0] at this
        exact this
      · have hm0 : m ≠ 0 := of_decide_eq_false hb
        have e13 := e12.trans e3
        have hbl := begM_len (n := n) (m := m) hn2
        have ens : EvN K (tLc (iList K (tVar 2)) (gName 6) tYes (tOp (rIxT K) (tVar 6) (tC (.int 0))) [6]) [some (.int (n : Nat)), some (.int (m : Nat)), some (.ref a), none, none, none, none, none] H3 ((rs.map Prod.fst).map cS) := by
          have en := en_lcTL (K := K) (as := rs) (c := cSI) (t := tYes) (te := tOp (rIxT K) (tVar 6) (tC (.int 0))) (tl := tVar 2) (a := a) (xs := xs) (j := 6) (vs := [6]) (σ := [some (.int (n : Nat)), some (.int (m : Nat)), some (.ref a), none, none, none, none, none]) (H := H3) (fun _ => true) (fun r => cS r.1) (ev_var rfl) (ex_l e13 hs) (hi.up e13) (by omega) (fun _ => rfl) (fun r hr x H4 e4 ix => et_yes) (fun r hr x H4 e4 ix _ => ec_ev (ev_ixC (K := K) (i := 0) (ec_var rfl ix) ev_c rfl))
          rw [List.filter_eq_self.mpr (fun _ _ => rfl)] at en
          rw [List.map_map]
          exact en
        have enb : ∀ H4, Ex H3 H4 → EvN K (tCall (spBeg K) [] E0 (tCons (tVar 0) (tCons (tVar 1) tNil))) [some (.int (n : Nat)), some (.int (m : Nat)), some (.ref a), none, none, none, none, none] H4 (((begM n m).map txt).map cS) := fun H4 e4 => by
          have := en_call (K := K) (σ := [some (.int (n : Nat)), some (.int (m : Nat)), some (.ref a), none, none, none, none, none]) (H := H4) (sp := spBeg K) (E := E0) (ta := tCons (tVar 0) (tCons (tVar 1) tNil)) (cs := (begM n m).map cT) (ea_cons (ev_var rfl) (ea_cons (ev_var rfl) ea_nil)) fun H1 e Q k => ⟨n, m, rfl, ⟨hn1, hn2⟩, hm, k⟩
          rw [List.map_map]
          exact this
        refine q_when (b := !decide (rs.map Prod.fst = (begM n m).map txt)) (et_test (ev_neNN (K := K) ens enb (strs_ok fun z hz => by
            obtain ⟨r, hr, rfl⟩ := List.mem_map.mp hz
            exact hok r hr) (strs_ok fun z hz => by
            obtain ⟨q, _, rfl⟩ := List.mem_map.mp hz
            exact txt_ok q) (eqv_strs _ _))) (fun hb H4 e4 => ?_) (fun hb H4 e4 => ?_)
        · refine s_ret (v := .bl false) ev_c fun H5 e5 => ?_
          have hf : decide (rs.map Prod.fst = (begM n m).map txt) = false := by simpa using hb
          have e0 : showsM n m rs = false := by
            unfold showsM
            rw [if_neg hm0, hf]
            rfl
          have := k H5 ((e13.trans e4).trans e5)
          rw [e0] at this
          exact this
        · have hf : rs.map Prod.fst = (begM n m).map txt := by simpa using hb
          have e14 := e13.trans e4
          have hlen : rs.length = (begM n m).length := by
            have := congrArg List.length hf
            rw [List.length_map, List.length_map] at this
            exact this
          have hxl : xs.length = rs.length := by rw [pr_len hi, List.length_map]
          refine q_forL (K := K) (a := a) (xs := xs) (ev_var rfl) (ex_l e14 hs)
            (fun i σ H5 => (∃ y3 y4 y5, σ = [some (.int (n : Nat)), some (.int (m : Nat)), some (.ref a), y3, y4, y5, none, none]) ∧ Ex H4 H5 ∧ ∀ j p r, j < i → (begM n m)[j]? = some p → rs[j]? = some r → goodBy p r.2 = true)
            (fun H5 e5 => ⟨⟨_, _, _, rfl⟩, e5, fun j p r hj => absurd hj (Nat.not_lt_zero _)⟩) (fun i σ5 H5 _ pr => ex_l (e14.trans pr.2.1) hs) (fun i x σ5 H5 hx pr => ?_) (fun σ5 H5 pr => ?_)
          · obtain ⟨⟨y3, y4, y5, rfl⟩, e5, hg⟩ := pr
            have e15 := e14.trans e5
            obtain ⟨c, hc, ic⟩ := pr_get hi hx
            obtain ⟨r, hr, hrm, rfl⟩ := at_map hc
            have hil : i < (begM n m).length := by
              have := (List.getElem?_eq_some_iff.mp hr).1
              omega
            have hp : (begM n m)[i]? = some (begM n m)[i] := List.getElem?_eq_getElem hil
            have hpm : (begM n m)[i] ∈ begM n m := List.getElem_mem hil
            generalize (begM n m)[i] = p at hp hpm
            obtain ⟨pl, pc, _⟩ := mem_begM.mp hpm
            have ht : r.1 = txt p := by
              have h1 : (rs.map Prod.fst)[i]? = some r.1 := by rw [List.getElem?_map, hr]; rfl
              have h2 : ((begM n m).map txt)[i]? = some (txt p) := by rw [List.getElem?_map, hp]; rfl
              rw [hf, h2] at h1
              exact (Option.some.inj h1).symm
            obtain ⟨t, b⟩ := r
            have ht : t = txt p := ht
            subst ht
            have ic := ic.up e15
            refine g_cell2 (K := K) ic ?_
            have hol := onesV_len p
            have hoe : (onesV p).length = (ones p).length := by unfold onesV; rw [List.length_map]
            refine q_asgL (xs := onesV p) (el_call (ea_cons (ev_var rfl) ea_nil) fun H1 e Q k E => ⟨p, rfl, by omega, k⟩) fun S H6 hS e6 h6 => ?_
            have hT : EvT (tOr (tNot (tTest (tChain (rI0 fun i j => .bl (decide (i ≤ j))) (rI0 fun i j => .bl (decide (i < j))) (tC (.int 0)) (tVar 4) (tVar 0)))) (tTest (tOp (rNeD K) (tLc (iList K (tVar 5)) (gName 7) (tTest (tOp (rIn K false) (tOp (rI (fun _ j => 0 < j) fun i j => .int (i % j)) (tOp (rI0 fun i j => .int (i + j)) (tVar 7) (tVar 4)) (tVar 0)) (tVar 5))) (tVar 7) [7]) (tLst tNil)))) [some (.int (n : Nat)), some (.int (m : Nat)), some (.ref a), some (.str (txt p)), some (.int b), some (.ref S), none, none] H6 (!goodBy p b) := by
              refine et_is (et_or (a := !(decide ((0 : Int) ≤ b) && decide (b < (n : Nat)))) (b := hasD p b.toNat) (et_not (et_test (ev_chain (K := K) ev_c (ev_var rfl) (ev_var rfl) rv_I0 rv_I0))) (fun hin => ?_)) ?_
              · have hin : (decide ((0 : Int) ≤ b) && decide (b < (n : Nat))) = true := by simpa using hin
                rw [Bool.and_eq_true] at hin
                have h1 := of_decide_eq_true hin.1
                obtain ⟨d, rfl⟩ : ∃ d : Nat, b = (d : Nat) := ⟨b.toNat, by omega⟩
                have en := en_lcTL (K := K) (as := ones p) (c := fun (i : Nat) => cI ((i : Nat) : Int)) (t := tTest (tOp (rIn K false) (tOp (rI (fun _ j => 0 < j) fun i j => .int (i % j)) (tOp (rI0 fun i j => .int (i + j)) (tVar 7) (tVar 4)) (tVar 0)) (tVar 5))) (te := tVar 7) (tl := tVar 5) (a := S) (xs := onesV p) (j := 7) (vs := [7]) (σ := [some (.int (n : Nat)), some (.int (m : Nat)), some (.ref a), some (.str (txt p)), some (.int (d : Nat)), some (.ref S), none, none]) (H := H6) (fun i => aw p (i + d)) (fun (i : Nat) => cI ((i : Nat) : Int)) (ev_var rfl) (sq_of h6) (ones_all p) (by omega) (fun _ => rfl) (fun i hi x H3 e3 ix => by
                    have hx : x = .int (i : Nat) := ix
                    subst hx
                    refine et_is (et_test (ev_op (ev_modN (b := n) (ev_addN (ev_var rfl) (ev_var rfl)) (ev_var rfl) (by omega)) (ev_var rfl) (rv_isL (K := K) (sq_of (e3 _ _ h6)) rfl (onesV_flat p)))) ?_
                    rw [← pl]
                    exact in_onesV (by omega) (i + d)) (fun i hi x H3 e3 ix _ => by
                    have hx : x = .int (i : Nat) := ix
                    subst hx
                    exact ec_ev (ev_var rfl))
                refine et_is (et_test (ev_nnilN (K := K) en (by rw [List.all_map, List.all_eq_true]; intro _ _; rfl))) ?_
                rw [Int.toNat_natCast, List.isEmpty_map]
                unfold hasD
                cases h : (ones p).any fun i => aw p (i + d) with
                | true =>
                  obtain ⟨i, hi, ha⟩ := List.any_eq_true.mp h
                  have : i ∈ (ones p).filter fun i => aw p (i + d) := List.mem_filter.mpr ⟨hi, ha⟩
                  cases hl : (ones p).filter fun i => aw p (i + d) with
                  | nil => rw [hl] at this; cases this
                  | cons _ _ => rfl
                | false =>
                  have : (ones p).filter (fun i => aw p (i + d)) = [] := by
                    rw [List.filter_eq_nil_iff]
                    intro i hi ha
                    have : (ones p).any (fun i => aw p (i + d)) = true := List.any_eq_true.mpr ⟨i, hi, ha⟩
                    rw [h] at this
                    cases this
                  rw [this]
                  rfl
              · unfold goodBy
                rw [pl]
                cases (decide ((0 : Int) ≤ b) && decide (b < (n : Nat))) <;> cases hasD p b.toNat <;> rfl
            refine s_when hT (fun hb H7 e7 => ?_) (fun hb H7 e7 => ?_)
            · refine s_ret (v := .bl false) ev_c fun H8 e8 => ?_
              have e0 : showsM n m rs = false := shows_at hm0 hp hr (by simpa using hb)
              have := k H8 (((e15.trans e6).trans e7).trans e8)
              rw [e0] at this
              exact this
            · refine ⟨⟨_, _, _, rfl⟩, (e5.trans e6).trans e7, fun j p' r' hj hp' hr' => ?_⟩
              by_cases c : j < i
              · exact hg j p' r' c hp' hr'
              · have : j = i := by omega
                subst this
                rw [hp] at hp'
                rw [hr] at hr'
                cases hp'
                cases hr'
                simpa using hb
          · obtain ⟨⟨y3, y4, y5, rfl⟩, e5, hg⟩ := pr
            refine s_ret (v := .bl true) ev_c fun H6 e6 => ?_
            have e0 : showsM n m rs = true := by
              unfold showsM
              rw [if_neg hm0, decide_eq_true hf, Bool.true_and, List.all_eq_true]
              rintro ⟨p, b⟩ hz
              obtain ⟨i, hi⟩ := List.mem_iff_getElem?.mp hz
              rw [List.getElem?_zip_eq_some, List.getElem?_map] at hi
              obtain ⟨h1, h2⟩ := hi
              cases h3 : rs[i]? with
              | none => rw [h3] at h2; cases h2
              | some r =>
                rw [h3] at h2
                have h2 : r.2 = b := Option.some.inj h2
                have := hg i p r (by have := (List.getElem?_eq_some_iff.mp h3).1; omega) h1 h3
                rw [h2] at this
                exact this
            have := k H6 ((e14.trans e5).trans e6)
            rw [e0] at this
            exact this
end
end Bm
namespace Bm
open PySem PySem.Spec PyProof.Rows L2 Evl
section
variable {P : Program} {w : World} {K : PySem.W.Frag} {mg : PySem.Str → Option Value} {base : Heap}
/-! ### is_better -/
abbrev s_is_better : Stmt := topS 36
theorem sc_is_better : FnScope ["one", "other", "mine", "theirs"] ["one", "other"] (defScope s_is_better) := ⟨rfl, rfl, rfl, by decide +kernel, rfl, by decide +kernel, by decide +kernel⟩
theorem ok_is_better (D : Def1 K mg "is_better" s_is_better) : Cal P w K mg base 1 "is_better" ["one", "other"] (spBetter K) := by
  refine D.cal sc_is_better (fun _ _ _ _ _ _ us hl => match us, hl with | [_, _], _ => rfl) (fun vs H Q E h => ?_) (fun f cdv A outer s H vs Q E hr h => ?_)
  · obtain ⟨v, u, r, s, rfl, _⟩ := h
    rfl
  · obtain ⟨v, u, r, s, rfl, iv, iu, ⟨sr, ss⟩, ⟨br, bs⟩, k⟩ := h
    refine ⟨_, (pss_cons (ps_set (i := 2) sc_is_better.nd rfl (Or.inl rfl) (pe_op op_mul (pe_ix ix_tup (pv 0) pe_int (fun _ _ => rfl)) (pe_ix ix_tup (pv 1) pe_int (fun _ _ => rfl))))
 (pss_cons (ps_set (i := 3) sc_is_better.nd rfl (Or.inl rfl) (pe_op op_mul (pe_ix ix_tup (pv 1) pe_int (fun _ _ => rfl)) (pe_ix ix_tup (pv 0) pe_int (fun _ _ => rfl))))
 (pss_one (ps_ret (pe_and (pe_cmpR op_le (pv 2) (pv 3) (nomark _)) (pe_and (pe_cmpR op_le (pe_ix ix_tup (pv 0) pe_int (fun _ _ => rfl)) (pe_ix ix_tup (pv 1) pe_int (fun _ _ => rfl)) (nomark _)) (pe_one (pe_or (pe_cmpR op_lt (pv 2) (pv 3) (nomark _)) (pe_one (pe_cmpR op_lt (pe_ix ix_tup (pv 0) pe_int (fun _ _ => rfl)) (pe_ix ix_tup (pv 1) pe_int (fun _ _ => rfl)) (nomark _))))))))))), ?_⟩
    have x0 : ∀ {H' : Hp} {y z : Option V}, Ex H H' → EvC K (tVar 0) [some v, some u, y, z] H' (cR r) := fun e => ec_var rfl (iv.up e)
    have x1 : ∀ {H' : Hp} {y z : Option V}, Ex H H' → EvC K (tVar 1) [some v, some u, y, z] H' (cR s) := fun e => ec_var rfl (iu.up e)
    refine q_asg (v := .int ((r.1 * s.2.1 : Nat) : Int)) (ev_mulN (ev_ixC (i := 0) (x0 (Ex.refl H)) ev_c rfl) (ev_ixC (i := 1) (x1 (Ex.refl H)) ev_c rfl) (by omega)) fun H1 e1 => ?_
    refine q_asg (v := .int ((s.1 * r.2.1 : Nat) : Int)) (ev_mulN (ev_ixC (i := 0) (x1 e1) ev_c rfl) (ev_ixC (i := 1) (x0 e1) ev_c rfl) (by omega)) fun H2 e2 => ?_
    have e12 := e1.trans e2
    have w0 : ∀ {H' : Hp} {y z : Option V}, Ex H H' → Ev (tOp (rIxT K) (tVar 0) (tC (.int 2))) [some v, some u, y, z] H' (.int (r.2.2.getD 0 : Nat)) := fun e => ev_ixC (i := 2) (x0 e) ev_c (by rw [← oV_get sr]; rfl)
    have w1 : ∀ {H' : Hp} {y z : Option V}, Ex H H' → Ev (tOp (rIxT K) (tVar 1) (tC (.int 2))) [some v, some u, y, z] H' (.int (s.2.2.getD 0 : Nat)) := fun e => ev_ixC (i := 2) (x1 e) ev_c (by rw [← oV_get ss]; rfl)
    refine s_ret (v := .bl (bett r s)) (ev_is (ev_andV (ev_op (ev_var rfl) (ev_var rfl) rv_I0) (fun _ => ev_andV (ev_op (w0 e12) (w1 e12) rv_I0) (fun _ => ev_orV (ev_op (ev_var rfl) (ev_var rfl) rv_I0) (fun _ => ev_op (w0 e12) (w1 e12) rv_I0)))) ?_) fun H3 e3 => k H3 (e12.trans e3)
    have d1 : ∀ a b : Nat, decide (((a : Nat) : Int) ≤ (b : Nat)) = decide (a ≤ b) := fun a b => decide_eq_decide.mpr (by omega)
    have d2 : ∀ a b : Nat, decide (((a : Nat) : Int) < (b : Nat)) = decide (a < b) := fun a b => decide_eq_decide.mpr (by omega)
    unfold bett
    rw [d1, d1, d2, d2]
end
end Bm
namespace Bm
open PySem PySem.Spec PyProof.Rows L2 Evl
section
variable {P : Program} {w : World} {K : PySem.W.Frag} {mg : PySem.Str → Option Value} {base : Heap}
/-! ### front -/
abbrev s_front : Stmt := topS 35
theorem sc_front : FnScope ["patterns", "number", "pattern", "rows", "some", "one", "other"] ["patterns"] (defScope s_front) := ⟨rfl, rfl, rfl, by decide +kernel, rfl, by decide +kernel, by decide +kernel⟩
def spFront (K : PySem.W.Frag) : Sp := fun vs H Q _ => ∃ (a : Addr) (ps : List (List Bool)), vs = [.ref a] ∧ SqL K H a (ps.map fun p => V.str (txt p)) ∧ (∀ p ∈ ps, Pat 12 p) ∧ ps.length ≤ 1000 ∧ RetL (natsV (frontL (ps.map rowOf))) H Q
theorem rowOf_lo {p : List Bool} (h : Pat 12 p) : (rowOf p).1 ≤ 1000 := by
  show (onesV p).length ≤ 1000
  have := onesV_len p
  have := h.hi
  omega
theorem getD_rows (ps : List (List Bool)) (k : Nat) (hk : k < ps.length) : ((ps.map rowOf).map cR)[k]? = some (cR ((ps.map rowOf).getD k r0)) := by
  rw [List.getElem?_map, List.getD_eq_getElem?_getD, List.getElem?_map, List.getElem?_eq_getElem hk]
  rfl
theorem rows_lo {ps : List (List Bool)} (hp : ∀ p ∈ ps, Pat 12 p) (k : Nat) : ((ps.map rowOf).getD k r0).1 ≤ 1000 := by
  rw [List.getD_eq_getElem?_getD, List.getElem?_map]
  cases h : ps[k]? with
  | none => exact Nat.zero_le _
  | some p => exact rowOf_lo (hp p (List.mem_of_getElem? h))
theorem rows_pos {ps : List (List Bool)} (hp : ∀ p ∈ ps, Pat 12 p) : ∀ k, k < (ps.map rowOf).length → 0 < ((ps.map rowOf).getD k r0).2.1 := fun k hk => by
  rw [List.length_map] at hk
  rw [List.getD_eq_getElem?_getD, List.getElem?_map, List.getElem?_eq_getElem hk]
  exact (hp _ (List.getElem_mem hk)).lo
theorem nats_at {ks : List Nat} {i : Nat} {c : Cel} (h : ((natsV ks).map Cel.v)[i]? = some c) : ∃ k, ks[i]? = some k ∧ c = .v (.int (k : Nat)) := by
  unfold natsV at h
  rw [List.map_map, List.getElem?_map] at h
  cases e : ks[i]? with
  | none => rw [e] at h; cases h
  | some k => rw [e] at h; exact ⟨k, rfl, (Option.some.inj h).symm⟩
theorem nats_ok (ks : List Nat) : ((natsV ks).map Cel.v).all okC = true := by
  unfold natsV
  rw [List.map_map, List.all_map, List.all_eq_true]
  intro _ _
  rfl
theorem given_nats (ks : List Nat) (F : Nat → Bool) : givenC ((natsV ks).map Cel.v).length (fun i => F (ks.getD i 0)) (fun i => ((natsV ks).map Cel.v).getD i (.v .non)) = (natsV (ks.filter F)).map Cel.v := by
  unfold givenC natsV
  rw [List.length_map, List.length_map]
  have er : ks = (List.range ks.length).map fun i => ks.getD i 0 := by
    apply List.ext_getElem
    · simp
    · intro i h1 h2
      simp [List.getD_eq_getElem?_getD, List.getElem?_eq_getElem h1]
  have er2 : ks.filter F = ((List.range ks.length).filter fun i => F (ks.getD i 0)).map fun i => ks.getD i 0 := by
    conv => lhs; rw [er]
    rw [List.filter_map]
    rfl
  rw [er2, List.map_map, List.map_map, List.map_map]
  refine List.map_congr_left fun i hi => ?_
  have hi : i < ks.length := by
    have := (List.mem_filter.mp hi).1
    simpa using this
  show (ks.map (Cel.v ∘ fun k : Nat => V.int (k : Nat))).getD i (.v .non) = .v (.int (ks.getD i 0 : Nat))
  rw [List.getD_eq_getElem?_getD, List.getD_eq_getElem?_getD, List.getElem?_map, List.getElem?_eq_getElem hi]
  rfl
theorem sure_given (rs : List R3) : given rs.length (fun k => (rs.getD k r0).2.2.isSome) (fun k => .int (k : Nat)) = natsV (sure rs) := rfl
theorem ok_front (D : Def1 K mg "front" s_front) (B : Bl mg) (c_fault_of : Cal P w K mg base 1 "fault_of" ["pattern"] spFault) (c_awake_of : Cal P w K mg base 1 "awake_of" ["pattern"] spOnes) (c_worst_of : Cal P w K mg base 3 "worst_of" ["one", "other", "loose"] (spWorst K)) (c_is_better : Cal P w K mg base 1 "is_better" ["one", "other"] (spBetter K)) :
    Cal P w K mg base 4 "front" ["patterns"] (spFront K) := by
  refine D.cal sc_front (fun _ _ _ _ _ _ us hl => match us, hl with | [_], _ => rfl) (fun vs H Q E h => ?_) (fun f cdv A outer s H vs Q E hr h => ?_)
  · obtain ⟨a, ps, rfl, _⟩ := h
    rfl
  · obtain ⟨a, ps, rfl, hS, hp, hl, k⟩ := h
    refine ⟨_, (pss_cons (ps_for PassesOwn.never rfl (pi_enum (by rfl) B.enumerate (pa_cons (pv 0) pa_nil)) (pg_tup rfl (pgs_cons (pg_name (i := 1) sc_front.nd rfl (Or.inl rfl)) (pgs_cons (pg_name (i := 2) sc_front.nd rfl (Or.inl rfl)) pgs_nil)))
 (pss_one (ps_if (pt_cmpR op_notN (pe_callC c_fault_of hr (by decide) (pa_cons (pv 2) pa_nil)) pe_non (nomark _)) pss_never
 pss_nil)))
 (pss_cons (ps_set (i := 3) sc_front.nd rfl (Or.inr rfl) (pe_lc (own := [("one", 5)]) (g := gName 5) rfl sc_front.nd (pi_list (pv 0)) (blkOk_by (N := ["patterns", "number", "pattern", "rows", "some", "one", "other"]) (sc := defScope s_front) (by decide +kernel)) (fun _ _ _ _ _ => (pg_name (i := 5) sc_front.nd rfl (Or.inl rfl))) (fun _ _ _ _ _ => pts_nil) (fun _ _ _ _ _ => (pe_tup (pa_cons (pe_callB (r := rLenS K) call_len_seq (by rfl) B.len PySem.boot_len (pa_cons (pe_callC c_awake_of hr (by decide) (pa_cons (pv 5) pa_nil)) pa_nil)) (pa_cons (pe_callB call_len_str (by rfl) B.len PySem.boot_len (pa_cons (pv 5) pa_nil)) (pa_cons (pe_ix (r := rIxT K) ix_tup (pe_callC c_worst_of hr (by decide) (pa_cons (pv 5) (pa_cons (pv 5) (pa_cons pe_bl pa_nil)))) pe_int (fun _ _ => rfl)) pa_nil)))))))
 (pss_cons (ps_set (i := 4) sc_front.nd rfl (Or.inr rfl) (pe_lc (own := [("number", 1)]) (g := gName 1) rfl sc_front.nd (pi_range1 (by rfl) B.range (pa_cons (pe_callB call_len_seq (by rfl) B.len PySem.boot_len (pa_cons (pv 0) pa_nil)) pa_nil)) (blkOk_by (N := ["patterns", "number", "pattern", "rows", "some", "one", "other"]) (sc := defScope s_front) (by decide +kernel)) (fun _ _ _ _ _ => (pg_name (i := 1) sc_front.nd rfl (Or.inl rfl))) (fun _ _ _ _ _ => (pts_one (pt_cmpR op_notN (pe_ix (r := rIxT K) ix_tup (pe_ix (r := rIxL K) ix_list (pv 3) (pv 1) (fun _ _ => rfl)) pe_int (fun _ _ => rfl)) pe_non (nomark _)))) (fun _ _ _ _ _ => (pv 1))))
 (pss_one (ps_ret (pe_lc (own := [("number", 1)]) (g := gName 1) rfl sc_front.nd (pi_list (pv 4)) (blkOk_by (N := ["patterns", "number", "pattern", "rows", "some", "one", "other"]) (sc := defScope s_front) (by decide +kernel)) (fun _ _ _ _ _ => (pg_name (i := 1) sc_front.nd rfl (Or.inr rfl))) (fun _ _ _ _ _ => (pts_one (pt_cmpR (r := rEqD K) (op_eqD hr.units) (pe_lc (own := [("other", 6)]) (g := gName 6) rfl sc_front.nd (pi_listK K rfl (pv 4)) (blkOk_by (by rfl)) (fun _ _ _ _ _ => (pg_name (i := 6) sc_front.nd rfl (Or.inl rfl))) (fun _ _ _ _ _ => (pts_one (pt_val (pe_callC c_is_better hr (by decide) (pa_cons (pe_ix (r := rIxL K) ix_list (pv 3) (pv 6) (fun _ _ => rfl)) (pa_cons (pe_ix (r := rIxL K) ix_list (pv 3) (pv 1) (fun _ _ => rfl)) pa_nil)))))) (fun _ _ _ _ _ => (pv 6))) (pe_lst pa_nil) (nomark _)))) (fun _ _ _ _ _ => (pv 1)))))))), ?_⟩
    have hget : ∀ (i : Nat) (x : V), (ps.map fun p => V.str (txt p))[i]? = some x → ∃ p, ps[i]? = some p ∧ x = V.str (txt p) := fun i x h => by
      rw [List.getElem?_map] at h
      cases e : ps[i]? with
      | none => rw [e] at h; cases h
      | some p => rw [e] at h; exact ⟨p, rfl, (Option.some.inj h).symm⟩
    refine s_forEL (K := K) (D := { nx := _, rt := _ }) (ea_cons (ev_var rfl) ea_nil) hS (fun i σ H' => (∃ y1 y2, σ = [some (.ref a), y1, y2, none, none, none, none]) ∧ Ex H H') (fun H1 e => ⟨⟨_, _, rfl⟩, e⟩) (fun i σ' H' _ p => ex_l p.2 hS) (fun i T x σ' H' hx p hT => ?_) (fun σ' H' p => ?_)
    · obtain ⟨⟨y1, y2, rfl⟩, e⟩ := p
      obtain ⟨q, hq, rfl⟩ := hget i x hx
      have hq := hp q (List.mem_of_getElem? hq)
      have hq1 := hq.hi
      refine g_two ?_
      exact s_when (b := false) (et_is (et_test (ev_notN (x := .non) (ev_call (ea_cons (ev_var rfl) ea_nil) fun H1 e Q k E => ⟨txt q, rfl, by rw [txt_len]; omega, by rw [fault_txt hq]; exact k⟩))) rfl) (fun hb => nomatch hb) (fun _ H2 e2 => ⟨⟨_, _, rfl⟩, (e.trans (Ex.new hT)).trans e2⟩)
    · obtain ⟨⟨y1, y2, rfl⟩, e⟩ := p
      -- rows
      have hall : IsAll K H' (ps.map fun p => V.str (txt p)) (ps.map fun p => Cel.v (.str (txt p))) := by
        have := vals_pr (K := K) (H := H') (ps.map fun p => V.str (txt p))
        rw [List.map_map] at this
        exact this
      have en := en_lcL (K := K) (t := tYes) (te := tTup (tCons (tCB (rLenS K) (tCons (tCall spOnes [] E0 (tCons (tVar 5) tNil)) tNil)) (tCons (tCB rLenStr (tCons (tVar 5) tNil)) (tCons (tOp (rIxT K) (tCall (spWorst K) [] E0 (tCons (tVar 5) (tCons (tVar 5) (tCons (tC (.bl false)) tNil)))) (tC (.int 0))) tNil)))) (tl := tVar 0) (a := a) (cs := ps.map fun p => Cel.v (.str (txt p))) (j := 5) (vs := [5]) (σ := [some (.ref a), y1, y2, none, none, none, none]) (H := H') (fun _ => true) (fun i => cR ((ps.map rowOf).getD i r0))
        (ev_var rfl) (ex_l e hS) hall (by rw [List.length_map]; omega) (fun _ => rfl) (fun i x c H3 e3 hc hi => fun H4 e4 Q q => q H4 (Ex.refl H4)) (fun i x c H3 e3 hc hi _ => by
          rw [List.getElem?_map] at hc
          cases hpi : ps[i]? with
          | none => rw [hpi] at hc; cases hc
          | some q =>
            rw [hpi] at hc
            cases hc
            have hx : x = .str (txt q) := hi
            subst hx
            have hq := hp q (List.mem_of_getElem? hpi)
            have hq0 := hq.lo
            have hq1 := hq.hi
            have er : (ps.map rowOf).getD i r0 = rowOf q := by
              rw [List.getD_eq_getElem?_getD, List.getElem?_map, hpi]
              rfl
            rw [er]
            exact ec_tup (ea_cons (ev_lenN (K := K) (xs := onesV q) (el_call (ea_cons (ev_var rfl) ea_nil) fun H1 e Q k E => ⟨q, rfl, by omega, k⟩)) (ea_cons (ev_lenS (p := q) (ev_var rfl) (by omega)) (ea_cons (ev_ixC (i := 0) (K := K) (ec_call (c := cRow (worst q q false)) (ea_cons (ev_var rfl) (ea_cons (ev_var rfl) (ea_cons ev_c ea_nil))) fun H1 e Q k => ⟨q, q, false, rfl, ⟨by omega, by omega⟩, ⟨by omega, by omega⟩, k⟩) ev_c rfl) ea_nil))) (by show 3 ≤ 1000; decide))
      have e0 : givenC (ps.map fun p => Cel.v (.str (txt p))).length (fun _ => true) (fun i => cR ((ps.map rowOf).getD i r0)) = (ps.map rowOf).map cR := by
        unfold givenC
        rw [List.filter_eq_self.mpr (fun _ _ => rfl), List.length_map]
        apply List.ext_getElem
        · simp
        · intro i h1 h2
          have hi : i < ps.length := by simpa using h1
          simp [List.getD_eq_getElem?_getD, List.getElem?_eq_getElem hi]
      rw [e0] at en
      refine q_asgN (K := K) en fun rl rx H1 _ e1 h1 i1 => ?_
      have e01 := e.trans e1
      -- some
      have el := el_lcR1 (ta := tCons (tCB (rLenS K) (tCons (tVar 0) tNil)) tNil) (t := tTest (tOp rNotN (tOp (rIxT K) (tOp (rIxL K) (tVar 3) (tVar 1)) (tC (.int 2))) (tC .non))) (te := tVar 1) (j := 1) (vs := [1]) (σ := [some (.ref a), y1, y2, some (.ref rl), none, none, none]) (H := H1) (n := ((ps.length : Nat) : Int)) (fun k => ((ps.map rowOf).getD k r0).2.2.isSome) (fun k => .int (k : Nat))
        (ea_cons (ev_is (ev_len (K := K) (ev_var rfl) (ex_l e01 hS)) (by rw [List.length_map])) ea_nil) (by omega) (fun _ => rfl) (fun i H3 e3 hb => by
          refine et_is (et_test (ev_notN (ev_ixC (i := 2) (K := K) (v := oV ((ps.map rowOf).getD i r0).2.2) (ec_ixL (K := K) (ev_var rfl) (sq_of (e3 _ _ h1)) (i1.up e3) (ev_var rfl) (getD_rows ps i (by omega))) ev_c rfl))) ?_
          rw [oV_is]
          cases ((ps.map rowOf).getD i r0).2.2 <;> rfl) (fun i H3 e3 hb _ => ev_var rfl)
      have e0s : given (((ps.length : Nat) : Int)).toNat (fun k => ((ps.map rowOf).getD k r0).2.2.isSome) (fun k => .int (k : Nat)) = natsV (sure (ps.map rowOf)) := by
        have := sure_given (ps.map rowOf)
        rw [List.length_map] at this
        exact this
      rw [e0s] at el
      refine q_asgL el fun sl H2 _ e2 h2 => ?_
      have e02 := e01.trans e2
      have hsl : (natsV (sure (ps.map rowOf))).length ≤ 1000 := by
        unfold natsV sure
        rw [List.length_map]
        have := List.length_filter_le (fun k => ((ps.map rowOf).getD k r0).2.2.isSome) (List.range (ps.map rowOf).length)
        have h2 : (List.range (ps.map rowOf).length).length = ps.length := by simp
        omega
      have hsure : ∀ {i k : Nat}, (sure (ps.map rowOf))[i]? = some k → k < ps.length ∧ ((ps.map rowOf).getD k r0).2.2.isSome = true := fun h => by
        have := mem_sure.mp (List.mem_of_getElem? h)
        rw [List.length_map] at this
        exact this
      have inner : ∀ (kk : Nat) (H3 : Hp) (y2 : Option V), Ex H2 H3 → kk < ps.length → ((ps.map rowOf).getD kk r0).2.2.isSome = true → EvN K (tLc (iList K (tVar 4)) (gName 6) (tB (tCall (spBetter K) [] E0 (tCons (tOp (rIxL K) (tVar 3) (tVar 6)) (tCons (tOp (rIxL K) (tVar 3) (tVar 1)) tNil)))) (tVar 6) [6]) [some (.ref a), some (.int (kk : Nat)), y2, some (.ref rl), some (.ref sl), none, none] H3 ((natsV ((sure (ps.map rowOf)).filter fun j => bett ((ps.map rowOf).getD j r0) ((ps.map rowOf).getD kk r0))).map Cel.v) := fun kk H3 y2 e3 hkk hsk => by
        have en2 := en_lcL (K := K) (t := tB (tCall (spBetter K) [] E0 (tCons (tOp (rIxL K) (tVar 3) (tVar 6)) (tCons (tOp (rIxL K) (tVar 3) (tVar 1)) tNil)))) (te := tVar 6) (tl := tVar 4) (a := sl) (xs := natsV (sure (ps.map rowOf))) (cs := (natsV (sure (ps.map rowOf))).map Cel.v) (j := 6) (vs := [6]) (σ := [some (.ref a), some (.int (kk : Nat)), y2, some (.ref rl), some (.ref sl), none, none]) (H := H3) (fun i => bett ((ps.map rowOf).getD ((sure (ps.map rowOf)).getD i 0) r0) ((ps.map rowOf).getD kk r0)) (fun i => ((natsV (sure (ps.map rowOf))).map Cel.v).getD i (.v .non))
          (ev_var rfl) (sq_of (e3 _ _ h2)) (vals_pr _) (by rw [List.length_map]; omega) (fun _ => rfl) (fun i x c H4 e4 hc hi => by
            obtain ⟨jj, hjj, rfl⟩ := nats_at hc
            have hx : x = .int (jj : Nat) := hi
            subst hx
            have eg : (sure (ps.map rowOf)).getD i 0 = jj := by
              rw [List.getD_eq_getElem?_getD, hjj]
              rfl
            rw [eg]
            obtain ⟨hj1, hj2⟩ := hsure hjj
            have e14 := (e2.trans e3).trans e4
            refine et_B (ev_callC2 (K := K) (c := cR ((ps.map rowOf).getD jj r0)) (c' := cR ((ps.map rowOf).getD kk r0)) (ec_ixL (K := K) (ev_var rfl) (sq_of (e14 _ _ h1)) (i1.up e14) (ev_var rfl) (getD_rows ps jj hj1)) (fun H5 e5 => ec_ixL (K := K) (ev_var rfl) (sq_of ((e14.trans e5) _ _ h1)) (i1.up (e14.trans e5)) (ev_var rfl) (getD_rows ps kk hkk)) fun v w H5 e5 iv iw H6 e6 Q k E => ⟨v, w, _, _, rfl, iv.up e6, iw.up e6, ⟨hj2, hsk⟩, ⟨rows_lo hp _, rows_lo hp _⟩, k⟩)) (fun i x c H4 e4 hc hi _ => by
            rw [List.getD_eq_getElem?_getD, hc]
            exact ec_var rfl hi)
        rw [given_nats (sure (ps.map rowOf)) (fun j => bett ((ps.map rowOf).getD j r0) ((ps.map rowOf).getD kk r0))] at en2
        exact en2
      have en3 := en_lcL (K := K) (t := tTest (tOp (rEqD K) (tLc (iList K (tVar 4)) (gName 6) (tB (tCall (spBetter K) [] E0 (tCons (tOp (rIxL K) (tVar 3) (tVar 6)) (tCons (tOp (rIxL K) (tVar 3) (tVar 1)) tNil)))) (tVar 6) [6]) (tLst tNil))) (te := tVar 1) (tl := tVar 4) (a := sl) (xs := natsV (sure (ps.map rowOf))) (cs := (natsV (sure (ps.map rowOf))).map Cel.v) (j := 1) (vs := [1]) (σ := [some (.ref a), y1, y2, some (.ref rl), some (.ref sl), none, none]) (H := H2) (fun i => ((sure (ps.map rowOf)).filter fun j => bett ((ps.map rowOf).getD j r0) ((ps.map rowOf).getD ((sure (ps.map rowOf)).getD i 0) r0)).isEmpty) (fun i => ((natsV (sure (ps.map rowOf))).map Cel.v).getD i (.v .non))
        (ev_var rfl) (sq_of h2) (vals_pr _) (by rw [List.length_map]; omega) (fun _ => rfl) (fun i x c H4 e4 hc hi => by
          obtain ⟨kk, hkk, rfl⟩ := nats_at hc
          have hx : x = .int (kk : Nat) := hi
          subst hx
          have eg : (sure (ps.map rowOf)).getD i 0 = kk := by
            rw [List.getD_eq_getElem?_getD, hkk]
            rfl
          rw [eg]
          obtain ⟨hj1, hj2⟩ := hsure hkk
          refine et_is (et_test (ev_nilN (inner kk H4 y2 e4 hj1 hj2) (nats_ok _))) ?_
          show (((sure (ps.map rowOf)).filter fun j => bett ((ps.map rowOf).getD j r0) ((ps.map rowOf).getD kk r0)).map (fun k => V.int (k : Nat)) |>.map Cel.v).isEmpty = _
          rw [List.isEmpty_map, List.isEmpty_map]) (fun i x c H4 e4 hc hi _ => by
          rw [List.getD_eq_getElem?_getD, hc]
          exact ec_var rfl hi)
      rw [given_nats (sure (ps.map rowOf)) (fun kk => ((sure (ps.map rowOf)).filter fun j => bett ((ps.map rowOf).getD j r0) ((ps.map rowOf).getD kk r0)).isEmpty)] at en3
      exact s_retL (el_en en3) fun p2 H3 hp2 e3 h3 => k p2 H3 (fresh_back e02 hp2) (e02.trans e3) h3
end
end Bm
namespace Bm
open PySem PySem.Spec PyProof.Rows L2 Evl
section
variable {P : Program} {w : World} {K : PySem.W.Frag} {mg : PySem.Str → Option Value} {base : Heap}
/-! ### is_met_in -/
abbrev s_is_met_in : Stmt := topS 26
theorem sc_is_met_in : FnScope ["one", "other", "within", "a", "b", "moment"] ["one", "other", "within"] (defScope s_is_met_in) := ⟨rfl, rfl, rfl, by decide +kernel, rfl, by decide +kernel, by decide +kernel⟩
def spMetIn : Sp := fun vs H Q _ => ∃ (p t : List Bool) (w : Nat), vs = [.str (txt p), .str (txt t), .int (w : Nat)] ∧ (0 < p.length ∧ p.length ≤ 100) ∧ (0 < t.length ∧ t.length ≤ 100) ∧ RetV (.bl (inTime p t w)) H Q
theorem ok_is_met_in (D : Def1 K mg "is_met_in" s_is_met_in) (B : Bl mg) (c_first_of : Cal P w K mg base 2 "first_of" ["one", "a", "other", "b", "loose"] spFirst) : Cal P w K mg base 3 "is_met_in" ["one", "other", "within"] spMetIn := by
  refine D.cal sc_is_met_in (fun _ _ _ _ _ _ us hl => match us, hl with | [_, _, _], _ => rfl) (fun vs H Q E h => ?_) (fun f cdv A outer s H vs Q E hr h => ?_)
  · obtain ⟨p, q, w, rfl, _⟩ := h
    rfl
  · obtain ⟨p, q, w, rfl, ⟨hp, hp2⟩, ⟨hq, hq2⟩, k⟩ := h
    refine ⟨_, (pss_cons (ps_for PassesOwn.never rfl (pi_range1 (by rfl) B.range (pa_cons (pe_callB call_len_str (by rfl) B.len PySem.boot_len (pa_cons (pv 0) pa_nil)) pa_nil)) (pg_name (i := 3) sc_is_met_in.nd rfl (Or.inl rfl))
 (pss_one (ps_for PassesOwn.never rfl (pi_range1 (by rfl) B.range (pa_cons (pe_callB call_len_str (by rfl) B.len PySem.boot_len (pa_cons (pv 1) pa_nil)) pa_nil)) (pg_name (i := 4) sc_is_met_in.nd rfl (Or.inl rfl))
 (pss_cons (ps_set (i := 5) sc_is_met_in.nd rfl (Or.inl rfl) (pe_callC c_first_of hr (by decide) (pa_cons (pv 0) (pa_cons (pv 3) (pa_cons (pv 1) (pa_cons (pv 4) (pa_cons pe_bl pa_nil)))))))
 (pss_one (ps_if (PW.pt (pw_or (pt_cmpR op_isN (pv 5) pe_non (nomark _)) (pw_or1 (pt_cmpR op_gt (pv 5) (pv 2) (nomark _))))) (pss_one (ps_ret pe_bl))
 pss_nil))))))
 (pss_one (ps_ret pe_bl))), ?_⟩
    refine q_forR1 (n := ((p.length : Nat) : Int)) (ea_cons (ev_lenS (p := p) (ev_var rfl) (by omega)) ea_nil) (by omega)
      (fun a σ H' => (∃ y3 y4 y5, σ = [some (.str (txt p)), some (.str (txt q)), some (.int (w : Nat)), y3, y4, y5]) ∧ Ex H H' ∧ ∀ a', a' < a → ∀ b, b < q.length → okTime p q w a' b = true)
      (fun H2 e2 => ⟨⟨_, _, _, rfl⟩, e2, fun a' h => absurd h (Nat.not_lt_zero _)⟩) (fun a σ' H' ha pr => ?_) (fun σ' H' pr => ?_)
    · obtain ⟨⟨y3, y4, y5, rfl⟩, e, hm⟩ := pr
      refine s_forR1 (n := ((q.length : Nat) : Int)) (ea_cons (ev_lenS (p := q) (ev_var rfl) (by omega)) ea_nil) (by omega)
        (fun b σ H'' => (∃ y4 y5, σ = [some (.str (txt p)), some (.str (txt q)), some (.int (w : Nat)), some (.int (a : Nat)), y4, y5]) ∧ Ex H H'' ∧ ∀ b', b' < b → okTime p q w a b' = true)
        (fun H2 e2 => ⟨⟨_, _, rfl⟩, e.trans e2, fun b' h => absurd h (Nat.not_lt_zero _)⟩) (fun b σ'' H'' hb pr => ?_) (fun σ'' H'' pr => ?_)
      · obtain ⟨⟨y4, y5, rfl⟩, e, hmb⟩ := pr
        refine q_asg (v := oV (first p q false a b)) (ev_call (ea_cons (ev_var rfl) (ea_cons (ev_var rfl) (ea_cons (ev_var rfl) (ea_cons (ev_var rfl) (ea_cons ev_c ea_nil))))) fun H1 e Q k E => ⟨p, q, a, b, false, rfl, ⟨hp, hp2⟩, ⟨hq, hq2⟩, k⟩) fun H3 e3 => ?_
        have hT : EvT (tOr (tTest (tOp rIsN (tVar 5) (tC .non))) (tTest (tOp (rI0 fun i j => .bl (decide (j < i))) (tVar 5) (tVar 2)))) [some (.str (txt p)), some (.str (txt q)), some (.int (w : Nat)), some (.int (a : Nat)), some (.int (b : Nat)), some (oV (first p q false a b))] H3 (!okTime p q w a b) := by
          unfold okTime
          cases hf : first p q false a b with
          | none => exact et_is (et_or (a := true) (b := true) (et_is (et_test (ev_isN (x := .non) (ev_var rfl))) rfl) (fun h => nomatch h)) rfl
          | some m =>
            refine et_is (et_or (a := false) (b := decide (((w : Nat) : Int) < (m : Nat))) (et_is (et_test (ev_isN (x := .int (m : Nat)) (ev_var rfl))) rfl) (fun _ => et_test (ev_op (ev_var rfl) (ev_var rfl) rv_I0))) ?_
            show (false || decide (((w : Nat) : Int) < (m : Nat))) = !decide (m ≤ w)
            rw [Bool.false_or]
            by_cases c : m ≤ w
            · rw [decide_eq_true c, decide_eq_false (by omega)]
              rfl
            · rw [decide_eq_false c, decide_eq_true (by omega)]
              rfl
        refine s_when hT (fun hb4 H4 e4 => ?_) (fun hb4 H4 e4 => ?_)
        · refine s_ret (v := .bl (inTime p q w)) (ev_is ev_c ?_) fun H5 e5 => k H5 (((e.trans e3).trans e4).trans e5)
          congr 1
          cases hi : inTime p q w with
          | false => rfl
          | true =>
            have := inTime_iff.mp hi a (by omega) b (by omega)
            rw [this] at hb4
            cases hb4
        · refine ⟨⟨_, _, rfl⟩, (e.trans e3).trans e4, fun b' hb' => ?_⟩
          by_cases c : b' < b
          · exact hmb b' c
          · have : b' = b := by omega
            rw [this]
            simpa using hb4
      · obtain ⟨⟨y4, y5, rfl⟩, e, hmb⟩ := pr
        refine ⟨⟨_, _, _, rfl⟩, e, fun a' ha' b hb => ?_⟩
        by_cases c : a' < a
        · exact hm a' c b hb
        · have : a' = a := by omega
          rw [this]
          exact hmb b (by omega)
    · obtain ⟨⟨y3, y4, y5, rfl⟩, e, hm⟩ := pr
      refine s_ret (v := .bl (inTime p q w)) (ev_is ev_c ?_) fun H5 e5 => k H5 (e.trans e5)
      rw [inTime_iff.mpr fun a ha b hb => hm a (by omega) b hb]
/-! ### partner -/
abbrev s_partner : Stmt := topS 34
theorem sc_partner : FnScope ["one", "beats", "within", "many", "pattern"] ["one", "beats", "within"] (defScope s_partner) := ⟨rfl, rfl, rfl, by decide +kernel, rfl, by decide +kernel, by decide +kernel⟩
def spPartner (K : PySem.W.Frag) : Sp := fun vs H Q _ => ∃ (p : List Bool) (n w : Nat), vs = [.str (txt p), .int (n : Nat), .int (w : Nat)] ∧ Pat 12 p ∧ (1 ≤ n ∧ n ≤ 12) ∧ w ≤ 143 ∧ RetC K (cPart (partnerM p n w)) H Q
theorem ok_partner (D : Def1 K mg "partner" s_partner) (B : Bl mg) (g_MOST_WITHIN : ∃ t, mg "MOST_WITHIN" = some (.int 143 t)) (c_need_pattern : Cal P w K mg base 2 "need_pattern" ["pattern"] spNeedP) (c_need_beats : Cal P w K mg base 1 "need_beats" ["beats"] spNeedB) (c_all_of : Cal P w K mg base 1 "all_of" ["beats", "many"] spAllOf) (c_is_met_in : Cal P w K mg base 3 "is_met_in" ["one", "other", "within"] spMetIn) :
    Cal P w K mg base 4 "partner" ["one", "beats", "within"] (spPartner K) := by
  refine D.cal sc_partner (fun _ _ _ _ _ _ us hl => match us, hl with | [_, _, _], _ => rfl) (fun vs H Q E h => ?_) (fun f cdv A outer s H vs Q E hr h => ?_)
  · obtain ⟨p, n, w, rfl, _⟩ := h
    rfl
  · obtain ⟨p, n, w, rfl, hp, ⟨hn1, hn2⟩, hw, k⟩ := h
    refine ⟨_, (pss_cons (ps_expr (pe_callC c_need_pattern hr (by decide) (pa_cons (pv 0) pa_nil)))
 (pss_cons (ps_expr (pe_callC c_need_beats hr (by decide) (pa_cons (pv 1) pa_nil)))
 (pss_cons (ps_if (pt_not (pt_chain op_le op_le pe_int (pv 2) (pe_gI g_MOST_WITHIN))) pss_never
 pss_nil)
 (pss_cons (ps_for PassesOwn.never rfl (pi_range2 (by rfl) B.range (pa_cons pe_int (pa_cons (pe_op op_add (pv 1) pe_int) pa_nil))) (pg_name (i := 3) sc_partner.nd rfl (Or.inl rfl))
 (pss_one (ps_for PassesOwn.never rfl (pi_list (pe_callC c_all_of hr (by decide) (pa_cons (pv 1) (pa_cons (pv 3) pa_nil)))) (pg_name (i := 4) sc_partner.nd rfl (Or.inl rfl))
 (pss_one (ps_if (pt_val (pe_callC c_is_met_in hr (by decide) (pa_cons (pv 0) (pa_cons (pv 4) (pa_cons (pv 2) pa_nil))))) (pss_one (ps_ret (pe_tup (pa_cons (pv 3) (pa_cons (pv 4) pa_nil)))))
 pss_nil)))))
 (pss_one (ps_ret pe_non)))))), ?_⟩
    have hp0 := hp.lo
    have hp1 := hp.hi
    refine q_drop (v := .non) (ev_call (ea_cons (ev_var rfl) ea_nil) fun H1 e Q k E => ⟨p, rfl, hp, k⟩) fun H1 e1 => ?_
    refine q_drop (v := .non) (ev_call (ea_cons (ev_var rfl) ea_nil) fun H1 e Q k E => ⟨n, rfl, hn1, hn2, k⟩) fun H2 e2 => ?_
    refine q_when (b := false) (et_is (et_not (et_test (ev_chain (K := K) ev_c (ev_var rfl) ev_c rv_I0 rv_I0))) ?_) (fun hb => nomatch hb) (fun _ H3 e3 => ?_)
    · have a1 : decide ((0 : Int) ≤ (w : Nat)) = true := decide_eq_true (by omega)
      have a2 : decide (((w : Nat) : Int) ≤ 143) = true := decide_eq_true (by omega)
      show (!(decide ((0 : Int) ≤ (w : Nat)) && decide (((w : Nat) : Int) ≤ 143))) = false
      rw [a1, a2]
      rfl
    · have e03 := (e1.trans e2).trans e3
      refine q_forR2 (lo := 1) (n := ((n + 1 : Nat) : Int)) (ea_cons ev_c (ea_cons (ev_addN (ev_var rfl) (ev_c (v := .int ((1 : Nat) : Int)))) ea_nil)) (by omega)
        (fun i σ H' => (∃ y3 y4, σ = [some (.str (txt p)), some (.int (n : Nat)), some (.int (w : Nat)), y3, y4]) ∧ Ex H H' ∧ ∀ y ∈ uptoP n i, inTime p y.2 w = false)
        (fun H4 e4 => ⟨⟨_, _, rfl⟩, e03.trans e4, fun y hy => nomatch hy⟩) (fun i σ' H' hi pr => ?_) (fun σ' H' pr => ?_)
      · obtain ⟨⟨y3, y4, rfl⟩, e, hm⟩ := pr
        have hi' : i < n := by omega
        have ei : (1 : Int) + (i : Nat) = ((i + 1 : Nat) : Int) := by omega
        rw [ei]
        refine s_forNL (K := K) (xs := txV (allOf n (i + 1))) (el_call (ea_cons (ev_var rfl) (ea_cons (ev_var rfl) ea_nil)) fun H1 e Q k E => ⟨n, i + 1, rfl, hn2, by omega, k⟩)
          (fun pl j σ H'' => (∃ y4, σ = [some (.str (txt p)), some (.int (n : Nat)), some (.int (w : Nat)), some (.int ((i + 1 : Nat) : Int)), y4]) ∧ Ex H H'' ∧ H'' pl = some (.lst (txV (allOf n (i + 1)))) ∧ ∀ u ∈ (allOf n (i + 1)).take j, inTime p u w = false)
          (fun pl H4 _ e4 h4 => ⟨⟨_, rfl⟩, e.trans e4, h4, fun u hu => by simp at hu⟩) (fun pl j σ H'' _ pr => sq_of pr.2.2.1) (fun pl j x σ H'' hx pr => ?_) (fun pl σ H'' pr => ?_)
        · obtain ⟨⟨y4, rfl⟩, e4, h4, hu⟩ := pr
          obtain ⟨t, ht, rfl⟩ : ∃ t, (allOf n (i + 1))[j]? = some t ∧ x = V.str (txt t) := by
            rw [List.getElem?_map] at hx
            cases h : (allOf n (i + 1))[j]? with
            | none => rw [h] at hx; cases hx
            | some t => rw [h] at hx; exact ⟨t, rfl, (Option.some.inj hx).symm⟩
          obtain ⟨tl, tc⟩ := mem_allOf.mp (List.mem_of_getElem? ht)
          refine s_when (b := inTime p t w) (et_B (ev_call (ea_cons (ev_var rfl) (ea_cons (ev_var rfl) (ea_cons (ev_var rfl) ea_nil))) fun H1 e Q k E => ⟨p, t, w, rfl, ⟨by omega, by omega⟩, ⟨by omega, by omega⟩, k⟩)) (fun hb H5 e5 => ?_) (fun hb H5 e5 => ?_)
          · refine s_retC (K := K) (c := cPart (some (i + 1, t))) (ec_tup (ea_cons (ev_var rfl) (ea_cons (ev_var rfl) ea_nil)) (by show 2 ≤ 1000; decide)) fun v H6 e6 i6 => ?_
            have hf : partnerM p n w = some (i + 1, t) := find_allP hi' ht hm hu hb
            have := k v H6 ((e4.trans e5).trans e6)
            rw [hf] at this
            exact this i6
          · refine ⟨⟨_, rfl⟩, e4.trans e5, e5 _ _ h4, fun u hu' => ?_⟩
            rw [List.take_add_one, ht] at hu'
            rcases List.mem_append.mp hu' with h | h
            · exact hu u h
            · have : u = t := by simpa using h
              rw [this]
              exact hb
        · obtain ⟨⟨y4, rfl⟩, e4, h4, hu⟩ := pr
          refine ⟨⟨_, _, rfl⟩, e4, fun y hy => ?_⟩
          rw [uptoP_succ] at hy
          rcases List.mem_append.mp hy with h | h
          · exact hm y h
          · obtain ⟨u, hu', rfl⟩ := List.mem_map.mp h
            exact hu u (by rw [List.take_of_length_le (by simp)]; exact hu')
      · obtain ⟨⟨y3, y4, rfl⟩, e, hm⟩ := pr
        refine s_retC (K := K) (c := cPart none) (ec_ev ev_c) fun v H4 e4 i4 => ?_
        have en : (((n + 1 : Nat) : Int) - 1).toNat = n := by omega
        rw [en] at hm
        have hf : partnerM p n w = none := by
          unfold partnerM
          rw [List.find?_eq_none]
          intro y hy
          rw [hm y hy]
          decide
        have := k v H4 (e.trans e4)
        rw [hf] at this
        exact this i4
end
end Bm
namespace Bm
open PySem PySem.Spec PyProof.Rows L2 Evl
section
variable {P : Program} {w : World} {K : PySem.W.Frag} {mg : PySem.Str → Option Value} {base : Heap}
/-! ### _law_dice -/
abbrev s_law_dice : Stmt := topS 38
theorem sc_law_dice : FnScope ["_law_script", "_law_k", "_law_found", "_law_cell"] ["_law_script", "_law_k"] (defScope s_law_dice) := ⟨rfl, rfl, rfl, by decide +kernel, rfl, by decide +kernel, by decide +kernel⟩
def spDice (K : PySem.W.Frag) : Sp := fun vs H Q _ => ∃ (a : Addr) (ns : List Int) (k : Int), vs = [.ref a, .int k] ∧ SqL K H a (ns.map V.int) ∧ ns.length ≤ 1000 ∧
  ∀ (D : Addr) (ds : List Int) (H2 : Hp), H D = none → Ex H H2 → 2 ≤ ds.length → H2 D = some (.lst (ds.map V.int)) → Q (.ref D) H2
theorem ok_law_dice (D : Def1 K mg "_law_dice" s_law_dice) (B : Bl mg) : Cal P w K mg base 1 "_law_dice" ["_law_script", "_law_k"] (spDice K) := by
  refine D.cal sc_law_dice (fun _ _ _ _ _ _ us hl => match us, hl with | [_, _], _ => rfl) (fun vs H Q E h => ?_) (fun f cdv A outer s H vs Q E hr h => ?_)
  · obtain ⟨a, ns, k, rfl, _⟩ := h
    rfl
  · obtain ⟨a, ns, k, rfl, hS, hl, kk⟩ := h
    refine ⟨_, (pss_cons (ps_set (i := 2) sc_law_dice.nd rfl (Or.inl rfl) (pv 1))
 (pss_cons (ps_for PassesOwn.never rfl (pi_list (pv 0)) (pg_name (i := 3) sc_law_dice.nd rfl (Or.inl rfl))
 (pss_one (ps_set (i := 2) sc_law_dice.nd rfl (Or.inl rfl) (pe_op op_mod (pe_op op_add (pe_op op_mul (pv 2) pe_int) (pe_callB call_abs (by rfl) B.abs (by decide +kernel) (pa_cons (pv 3) pa_nil))) pe_int))))
 (pss_one (ps_ret (pe_op op_cat (pe_lst (pa_cons (pv 2) (pa_cons pe_int pa_nil))) (pe_lc (own := [("_law_cell", 3)]) (g := gName 3) rfl sc_law_dice.nd (pi_list (pv 0)) (blkOk_by (N := ["_law_script", "_law_k", "_law_found", "_law_cell"]) (sc := defScope s_law_dice) (by decide +kernel)) (fun _ _ _ _ _ => (pg_name (i := 3) sc_law_dice.nd rfl (Or.inl rfl))) (fun _ _ _ _ _ => (pts_one (pt_cmpR op_ge (pv 3) (pe_op op_pow pe_int pe_int) (nomark _)))) (fun _ _ _ _ _ => (pv 3)))))))), ?_⟩
    refine q_asg (v := .int k) (ev_var rfl) fun H1 e1 => ?_
    refine q_forLn (a := a) (xs := ns.map V.int) (K := K) (ev_var rfl) (ex_l e1 hS) (fun i σ H' => (∃ z y, σ = [some (.ref a), some (.int k), some (.int z), y]) ∧ Ex H H') (fun H2 e2 => ⟨⟨k, _, rfl⟩, e1.trans e2⟩) (fun i σ' H' _ p => ex_l p.2 hS) (fun i x σ' H' hx p => ?_) (fun σ' H' p => ?_)
    · obtain ⟨⟨z, y, rfl⟩, e⟩ := p
      obtain ⟨m, rfl⟩ : ∃ m, x = V.int m := by
        rw [List.getElem?_map] at hx
        cases h : ns[i]? with
        | none => rw [h] at hx; cases hx
        | some m => rw [h] at hx; exact ⟨m, (Option.some.inj hx).symm⟩
      refine s_asg (ev_op (ev_op (ev_op (ev_var rfl) ev_c (rv_I (Or.inr ⟨by decide, by decide⟩))) (ev_cb (ea_cons (ev_var rfl) ea_nil) fun H1 _ _ q => ⟨m, rfl, q H1 (Ex.refl H1)⟩) rv_I0) ev_c (rv_I (by decide))) fun H2 e2 => ?_
      exact ⟨⟨_, _, rfl⟩, e.trans e2⟩
    · obtain ⟨⟨z, y, rfl⟩, e⟩ := p
      refine s_retL (el_cat (el_lst (ea_cons (ev_var rfl) (ea_cons ev_c ea_nil)) (by show 2 ≤ 100000; decide)) (el_lcL (K := K) (a := a) (xs := ns.map V.int) (fun i => decide ((10 : Int) ^ ((18 : Int).toNat) ≤ ns.getD i 0)) (fun i => .int (ns.getD i 0)) (ev_var rfl) (ex_l e hS) (by rw [List.length_map]; omega) (fun _ => rfl) (fun i x H1 e1 hx => ?_) (fun i x H1 e1 hx _ => ?_)) ?_) ?_
      · have hx' : x = .int (ns.getD i 0) := by
          rw [List.getElem?_map] at hx
          rw [List.getD_eq_getElem?_getD]
          cases h : ns[i]? with
          | none => rw [h] at hx; cases hx
          | some m => rw [h] at hx; exact (Option.some.inj hx).symm
        subst hx'
        exact et_test (ev_op (ev_var rfl) (ev_op ev_c ev_c (rv_I ⟨by decide, by decide, by decide⟩)) rv_I0)
      · have hx' : x = .int (ns.getD i 0) := by
          rw [List.getElem?_map] at hx
          rw [List.getD_eq_getElem?_getD]
          cases h : ns[i]? with
          | none => rw [h] at hx; cases hx
          | some m => rw [h] at hx; exact (Option.some.inj hx).symm
        subst hx'
        exact ev_var rfl
      · have := given_len (ns.map V.int).length (fun i => decide ((10 : Int) ^ ((18 : Int).toNat) ≤ ns.getD i 0)) (fun i => .int (ns.getD i 0))
        rw [List.length_map] at this ⊢
        show 2 + _ ≤ _
        omega
      · intro p H2 hp e2 h2
        refine kk p (z :: 0 :: ((List.range ns.length).filter (fun i => decide ((10 : Int) ^ ((18 : Int).toNat) ≤ ns.getD i 0))).map fun i => ns.getD i 0) H2 (fresh_back e hp) (e.trans e2) (by simp) ?_
        rw [h2]
        congr 2
        show V.int z :: V.int 0 :: given _ _ _ = V.int z :: V.int 0 :: _
        unfold given
        rw [List.length_map, List.map_map]
        rfl
/-! ### _law_off -/
abbrev s_law_off : Stmt := topS 39
theorem sc_law_off : FnScope ["_law_d", "_law_most", "_law_found"] ["_law_d", "_law_most"] (defScope s_law_off) := ⟨rfl, rfl, rfl, by decide +kernel, rfl, by decide +kernel, by decide +kernel⟩
def spOff : Sp := fun vs H Q _ => ∃ (D : Addr) (ds : List Int) (m : Nat), vs = [.ref D, .int (m : Nat)] ∧ (0 < m ∧ m ≤ 1000000) ∧ 2 ≤ ds.length ∧ H D = some (.lst (ds.map V.int)) ∧
  ∀ (r : Nat) (ds' : List Int) (H2 : Hp), r < m → 2 ≤ ds'.length → ExB D H H2 → H2 D = some (.lst (ds'.map V.int)) → Q (.int (r : Nat)) H2
theorem off_of {D : Addr} {G H : Hp} {m : Nat} {Q : VK} {E : XK} (d : DD D G H) (hm : 0 < m ∧ m ≤ 1000000) (k : ∀ (r : Nat) (H2 : Hp), r < m → ExB D H H2 → DD D G H2 → Q (.int (r : Nat)) H2) : spOff [.ref D, .int (m : Nat)] H Q E := by
  obtain ⟨ds, h2, h⟩ := d.at_
  exact ⟨D, ds, m, rfl, hm, h2, h, fun r ds' H2 hr h2' e h' => k r H2 hr e (d.b e h2' h')⟩
theorem r_off {σ : L2.St} {ta : TA} {D : Addr} {G H : Hp} {m : Nat} {Q : VK} (d : DD D G H) (hm : 0 < m ∧ m ≤ 1000000) (h : EvA ta σ H [.ref D, .int (m : Nat)]) (k : ∀ (r : Nat) (H2 : Hp), r < m → ExB D H H2 → DD D G H2 → Q (.int (r : Nat)) H2) : tCall spOff [] E0 ta σ H Q :=
  h H (Ex.refl H) _ fun H1 e1 => off_of (d.up e1) hm fun r H2 hr e2 d2 => k r H2 hr ((Ex.b e1).trans e2) d2
theorem r_cOff {σ : L2.St} {ta : TA} {D : Addr} {G H : Hp} {m c : Nat} {Q : VK} (d : DD D G H) (hm : 0 < m ∧ m ≤ 1000000) (h : EvA ta σ H [.ref D, .int (m : Nat)]) (k : ∀ (r : Nat) (H2 : Hp), r < m → ExB D H H2 → DD D G H2 → Q (.int ((c + r : Nat) : Int)) H2) :
    tOp (rI0 fun i j => .int (i + j)) (tC (.int ((c : Nat) : Int))) (tCall spOff [] E0 ta) σ H Q :=
  r_off d hm h fun r H2 hr e2 d2 => ⟨(c : Nat), (r : Nat), rfl, rfl, by
    have := k r H2 hr e2 d2
    rw [Int.natCast_add] at this
    exact this⟩
/-- [a, b, ..][off(d, m)] -/
theorem r_menu {σ : L2.St} {ta tb : TA} {D : Addr} {G H : Hp} {m : Nat} {vs : List V} {Q : VK} (d : DD D G H) (ha : EvA ta σ H vs) (hl : vs.length = m) (hm : 0 < m ∧ m ≤ 1000) (h : ∀ H1, Ex H H1 → EvA tb σ H1 [.ref D, .int (m : Nat)])
    (k : ∀ (v : V) (H2 : Hp), v ∈ vs → ExB D H H2 → DD D G H2 → Q v H2) : tOp (rIxL K) (tLst ta) (tCall spOff [] E0 tb) σ H Q :=
  r_op2 (el_lst ha (by omega) H (Ex.refl H) _ fun pl H3 hp e3 h3 => r_off (m := m) (d.up e3) (by omega) (h H3 e3) fun r H4 hr e4 d4 => by
    obtain ⟨ds, _, hds⟩ := d.at_
    have hpl : pl ≠ D := (ne_of_none hds hp).symm
    have hr' : r < vs.length := by omega
    exact ⟨pl, vs, (r : Nat), vs[r], rfl, rfl, sq_of (e4 _ _ hpl h3), atI_nat (List.getElem?_eq_getElem hr'), k _ H4 (List.getElem_mem hr') ((Ex.b e3).trans e4) d4⟩)
/-- for .. in range(off(d, m)), something behind -/
theorem r_qforOff {σ : L2.St} {ta : TA} {Da : Addr} {G H : Hp} {m j : Nat} {tu tz : TS} {D : Ends} (d : DD Da G H) (hm : 0 < m ∧ m ≤ 1000) (h : EvA ta σ H [.ref Da, .int (m : Nat)]) (Pv : Nat → Nat → L2.St → Hp → Prop) (h0 : ∀ n H1, n < m → ExB Da H H1 → DD Da G H1 → Pv n 0 σ H1)
    (hs : ∀ n i σ' H', n < m → i < n → Pv n i σ' H' → tu { D with nx := Pv n (i + 1), ct := Pv n (i + 1), bk := tz D } (σ'.set j (some (.int (i : Nat)))) H') (hd : ∀ n σ' H', n < m → Pv n n σ' H' → tz D σ' H') :
    tSeq (tFor (iRng1 (tCons (tCall spOff [] E0 ta) tNil)) (gName j) tu) tz D σ H := by
  show tCall spOff [] E0 ta σ H _
  refine r_off d (by omega) h fun n H1 hn e1 d1 => ⟨(n : Nat), rfl, by omega, by omega, ?_⟩
  have := for_range (lo := 0) (n := ((n : Nat) : Int).toNat) (g := gName j) (tb := tu) (D := { D with nx := tz D }) (σ := σ) (H := H1) (Pv n) (h0 n H1 hn e1 d1) (fun i σ' H' hi p => by
    have e0 : (0 : Int) + (i : Int) = (i : Int) := Int.zero_add _
    show tu { D with nx := Pv n (i + 1), ct := Pv n (i + 1), bk := tz D } (σ'.set j (some (.int ((0 : Int) + (i : Int))))) H'
    rw [e0]
    exact hs n i σ' H' hn (by omega) p) (fun σ' H' p => hd n σ' H' hn p)
  exact this
theorem r_and {t u : TT} {σ : L2.St} {H : Hp} {b : Bool} {Q : Bool → Hp → Prop} (h1 : EvT t σ H b) (h2 : b = true → ∀ H1, Ex H H1 → u σ H1 Q) (h3 : b = false → ∀ H1, Ex H H1 → Q false H1) : tAnd t u σ H Q := h1 H (Ex.refl H) _ fun H1 e1 => by
  cases b with
  | true => exact iteT (h2 rfl H1 e1)
  | false => exact iteF (h3 rfl H1 e1)
theorem get_ints {ds : List Int} {i : Nat} (h : i < ds.length) : atI (ds.map V.int) (i : Nat) = some (.int (ds.getD i 0)) := by
  refine atI_nat ?_
  rw [List.getElem?_map, List.getElem?_eq_getElem h, List.getD_eq_getElem?_getD, List.getElem?_eq_getElem h]
  rfl
theorem erase_map {α β : Type} (f : α → β) : ∀ (l : List α) (i : Nat), (l.map f).eraseIdx i = (l.eraseIdx i).map f
  | [], _ => rfl
  | _ :: _, 0 => rfl
  | a :: l, i + 1 => congrArg (f a :: ·) (erase_map f l i)
theorem set_ints {ds : List Int} {i : Nat} {z : Int} : (ds.map V.int).set i (.int z) = (ds.set i z).map V.int := by
  rw [List.map_set]
theorem ok_law_off (D : Def1 K mg "_law_off" s_law_off) (B : Bl mg) : Cal P w K mg base 1 "_law_off" ["_law_d", "_law_most"] spOff := by
  refine D.cal sc_law_off (fun _ _ _ _ _ _ us hl => match us, hl with | [_, _], _ => rfl) (fun vs H Q E h => ?_) (fun f cdv A outer s H vs Q E hr h => ?_)
  · obtain ⟨D, ds, m, rfl, _⟩ := h
    rfl
  · obtain ⟨D, ds, m, rfl, hm, h2, hD, k⟩ := h
    refine ⟨_, (pss_cut (ps_if (PW.pt (pw_and (pt_cmpR op_eq (pe_ix ix_list (pv 0) pe_int (fun _ _ => rfl)) pe_int (nomark _)) (pw_and1 (pt_cmpR op_gt (pe_callB call_len_seq (by rfl) B.len PySem.boot_len (pa_cons (pv 0) pa_nil)) pe_int (nomark _))))) (pss_one (ps_asg (pe_bm PySem.F.plainAttrs_list PySem.F.slot_list_pop PySem.F.type_list_pop mt_popAt (pv 0) (pa_cons pe_int pa_nil)) (pg_sub (pv 0) pe_int set_list)))
 pss_nil)
 (pss_cons (ps_if (pt_cmpR op_gt (pe_ix ix_list (pv 0) pe_int (fun _ _ => rfl)) pe_int (nomark _)) (pss_cons (ps_set (i := 2) sc_law_off.nd rfl (Or.inl rfl) (pe_op op_mod (pe_ix ix_list (pv 0) pe_int (fun _ _ => rfl)) (pv 1)))
 (pss_cons (ps_asg (pe_op op_fdiv (pe_ix ix_list (pv 0) pe_int (fun _ _ => rfl)) (pv 1)) (pg_sub (pv 0) pe_int set_list))
 (pss_one (ps_ret (pv 2)))))
 pss_nil)
 (pss_cons (ps_asg (pe_op op_mod (pe_op op_add (pe_op op_mul (pe_ix ix_list (pv 0) pe_int (fun _ _ => rfl)) pe_int) pe_int) pe_int) (pg_sub (pv 0) pe_int set_list))
 (pss_one (ps_ret (pe_op op_mod (pe_op op_fdiv (pe_ix ix_list (pv 0) pe_int (fun _ _ => rfl)) pe_int) (pv 1))))))), ?_⟩
    have ix1 : ∀ {H' : Hp} {ds' : List Int} {y : Option V}, 2 ≤ ds'.length → H' D = some (.lst (ds'.map V.int)) → Ev (tOp (rIxL K) (tVar 0) (tC (.int 1))) [some (.ref D), some (.int (m : Nat)), y] H' (.int (ds'.getD 1 0)) :=
      fun hl hd => ev_op (ev_var rfl) ev_c (rv_ixL (sq_of hd) (get_ints (i := 1) hl))
    have ix0 : ∀ {H' : Hp} {ds' : List Int} {y : Option V}, 2 ≤ ds'.length → H' D = some (.lst (ds'.map V.int)) → Ev (tOp (rIxL K) (tVar 0) (tC (.int 0))) [some (.ref D), some (.int (m : Nat)), y] H' (.int (ds'.getD 0 0)) :=
      fun hl hd => ev_op (ev_var rfl) ev_c (rv_ixL (sq_of hd) (get_ints (i := 0) (by omega)))
    refine q_cut (M := fun σ H' => ∃ ds' : List Int, σ = [some (.ref D), some (.int (m : Nat)), none] ∧ ExB D H H' ∧ 2 ≤ ds'.length ∧ H' D = some (.lst (ds'.map V.int))) ?_ ?_
    · refine s_when (b := decide (V.int (ds.getD 1 0) = V.int 0) && decide (2 < ((ds.length : Nat) : Int))) (et_and (et_test (ev_op (ix1 h2 hD) ev_c (rv_eq rfl))) (fun _ => et_test (ev_is (ev_op (ev_len (ev_var rfl) (sq_of hD)) ev_c rv_I0) (by simp)))) (fun hb H1 e1 => ?_) (fun hb H1 e1 => ⟨ds, rfl, Ex.b e1, h2, e1 _ _ hD⟩)
      have h3 : 2 < ds.length := by
        have := (Bool.and_eq_true_iff.mp hb).2
        have := of_decide_eq_true this
        omega
      have hD1 := e1 _ _ hD
      refine ⟨.ref D, rfl, Or.inl ⟨rfl, _, sq_of hD1⟩, D, ds.map V.int, 2, 2, .int (ds.getD 2 0), rfl, rfl, hD1, by decide, by decide, ?_, ?_, ?_⟩
      · unfold seqIndex?
        rw [List.length_map]
        simp only [show ¬ ((2 : Int) < 0) by decide, if_false]
        rw [if_pos (by simp; omega)]
        rfl
      · rw [List.getElem?_map, List.getElem?_eq_getElem h3, List.getD_eq_getElem?_getD, List.getElem?_eq_getElem h3]
        rfl
      · refine ⟨.ref D, rfl, D, (ds.map V.int).eraseIdx 2, 1, 1, rfl, rfl, upd_same, ?_, ?_⟩
        · unfold ixN
          rw [if_pos (by decide), if_pos (by rw [List.length_eraseIdx, List.length_map, if_pos h3]; omega)]
          rfl
        · refine ⟨(ds.eraseIdx 2).set 1 (ds.getD 2 0), rfl, (Ex.b e1).trans (ExB.upd.trans ExB.upd), ?_, ?_⟩
          · rw [List.length_set, List.length_eraseIdx, if_pos h3]
            omega
          · rw [upd_same, ← set_ints]
            congr 2
            congr 1
            exact erase_map _ _ _
    · rintro σ' H' ⟨ds', rfl, e', h2', hD'⟩
      refine q_when (b := decide (0 < ds'.getD 1 0)) (et_test (ev_op (ix1 h2' hD') ev_c rv_I0)) (fun hb H1 e1 => ?_) (fun hb H1 e1 => ?_)
      · have hD1 := e1 _ _ hD'
        refine q_asg (v := .int (ds'.getD 1 0 % (m : Nat))) (ev_op (ix1 h2' hD1) (ev_var rfl) (rv_I (by show (0 : Int) < (m : Nat); omega))) fun H2 e2 => ?_
        have hD2 := e2 _ _ hD1
        refine q_setL (j := 1) (xs := ds'.map V.int) hD2 (v := .int (ds'.getD 1 0 / (m : Nat))) (ev_op (ix1 h2' hD2) (ev_var rfl) (rv_I (by show (0 : Int) < (m : Nat) ∧ (m : Nat) < (1073741824 : Int); omega))) (ev_var rfl) ev_c (by rw [List.length_map]; omega) fun H3 e3 => ?_
        have hr0 : 0 ≤ ds'.getD 1 0 % (m : Nat) := Int.emod_nonneg _ (by omega)
        have hr1 : ds'.getD 1 0 % (m : Nat) < (m : Nat) := Int.emod_lt_of_pos _ (by omega)
        refine s_ret (v := .int (ds'.getD 1 0 % (m : Nat))) (ev_var rfl) fun H4 e4 => ?_
        have hz : ((ds'.getD 1 0 % (m : Nat)).toNat : Int) = ds'.getD 1 0 % (m : Nat) := Int.toNat_of_nonneg hr0
        have := k (ds'.getD 1 0 % (m : Nat)).toNat (ds'.set 1 (ds'.getD 1 0 / (m : Nat))) H4 (by omega) (by rw [List.length_set]; exact h2') (e'.trans ((Ex.b ((e1.trans e2).trans e3)).trans (ExB.upd.trans (Ex.b e4)))) (e4 _ _ (by rw [upd_same, set_ints]))
        rw [hz] at this
        exact this
      · have hD1 := e1 _ _ hD'
        refine q_setL (j := 0) (xs := ds'.map V.int) hD1 (v := .int ((ds'.getD 0 0 * 48271 + 11) % 2147483647)) (ev_op (ev_op (ev_op (ix0 h2' hD1) ev_c (rv_I (Or.inr ⟨by decide, by decide⟩))) ev_c rv_I0) ev_c (rv_I (by decide))) (ev_var rfl) ev_c (by rw [List.length_map]; omega) fun H2 e2 => ?_
        have hD2 : (upd H2 D (.lst ((ds'.map V.int).set 0 (.int ((ds'.getD 0 0 * 48271 + 11) % 2147483647))))) D = some (.lst ((ds'.set 0 ((ds'.getD 0 0 * 48271 + 11) % 2147483647)).map V.int)) := by rw [upd_same, set_ints]
        have hl2 : 2 ≤ (ds'.set 0 ((ds'.getD 0 0 * 48271 + 11) % 2147483647)).length := by rw [List.length_set]; exact h2'
        generalize (ds'.set 0 ((ds'.getD 0 0 * 48271 + 11) % 2147483647)) = es at hD2 hl2
        generalize hg : (upd H2 D (.lst ((ds'.map V.int).set 0 (.int ((ds'.getD 0 0 * 48271 + 11) % 2147483647))))) = H3 at hD2
        have e3 : ExB D H H3 := by
          rw [← hg]
          exact e'.trans ((Ex.b (e1.trans e2)).trans ExB.upd)
        have hr0 : 0 ≤ es.getD 0 0 / 64 % (m : Nat) := Int.emod_nonneg _ (by omega)
        have hr1 : es.getD 0 0 / 64 % (m : Nat) < (m : Nat) := Int.emod_lt_of_pos _ (by omega)
        refine s_ret (v := .int (es.getD 0 0 / 64 % (m : Nat))) (ev_op (ev_op (ix0 hl2 hD2) ev_c (rv_I (by show (0 : Int) < 64 ∧ (64 : Int) < 1073741824; decide))) (ev_var rfl) (rv_I (by show (0 : Int) < (m : Nat); omega))) fun H4 e4 => ?_
        have hz : ((es.getD 0 0 / 64 % (m : Nat)).toNat : Int) = es.getD 0 0 / 64 % (m : Nat) := Int.toNat_of_nonneg hr0
        have := k (es.getD 0 0 / 64 % (m : Nat)).toNat es H4 (by omega) hl2 (e3.trans (Ex.b e4)) (e4 _ _ hD2)
        rw [hz] at this
        exact this
end
end Bm
namespace Bm
open PySem PySem.Spec PyProof.Rows L2 Evl
section
variable {P : Program} {w : World} {K : PySem.W.Frag} {mg : PySem.Str → Option Value} {base : Heap}
/-! ### _law_alike -/
abbrev s_law_alike : Stmt := topS 40
theorem sc_law_alike : FnScope ["_law_found", "_law_due", "_law_k"] ["_law_found", "_law_due"] (defScope s_law_alike) := ⟨rfl, rfl, rfl, by decide +kernel, rfl, by decide +kernel, by decide +kernel⟩
def spAlike (K : PySem.W.Frag) (n : Nat) : Sp := fun vs H Q _ => ∃ v u : V, vs = [v, u] ∧ Al K H n v u ∧ RetV (.bl true) H Q
def rNotV : V → V → Bool := fun x y => !decide (x = y)
theorem alike_turn (D : Def1 K mg "_law_alike" s_law_alike) (B : Bl mg) {n : Nat} {sp' : Sp} (c_law_alike : Cal P w K mg base n "_law_alike" ["_law_found", "_law_due"] sp') (hs : ∀ m, n = m + 1 → ∀ (H : Hp) (x y : V), Al K H m x y → SpV sp' [x, y] H (.bl true)) :
    Cal P w K mg base (n + 1) "_law_alike" ["_law_found", "_law_due"] (spAlike K n) := by
  refine D.cal sc_law_alike (fun _ _ _ _ _ _ us hl => match us, hl with | [_, _], _ => rfl) (fun vs H Q E h => ?_) (fun f cdv A outer s H vs Q E hr h => ?_)
  · obtain ⟨v, u, rfl, _⟩ := h
    rfl
  · obtain ⟨v, u, rfl, ha, k⟩ := h
    refine ⟨_, (pss_cons (ps_if (pt_cmpR op_isN (pv 1) pe_non (nomark _)) (pss_one (ps_ret (pe_cmpR op_isN (pv 0) pe_non (nomark _))))
 pss_nil)
 (pss_cons (ps_if (pt_val (pe_callB call_isi (by rfl) B.isinstance (by decide +kernel) (pa_cons (pv 1) (pa_cons (pe_bltn (v := .ty "bool") (by rfl) B.bool (by decide +kernel) rfl) pa_nil)))) (pss_one (ps_ret (pe_and (pe_callB call_isi (by rfl) B.isinstance (by decide +kernel) (pa_cons (pv 0) (pa_cons (pe_bltn (v := .ty "bool") (by rfl) B.bool (by decide +kernel) rfl) pa_nil))) (pe_one (pe_cmpR op_eq (pv 0) (pv 1) (nomark _))))))
 pss_nil)
 (pss_cons (ps_if (pt_val (pe_callB call_isi (by rfl) B.isinstance (by decide +kernel) (pa_cons (pv 1) (pa_cons (pe_bltn (v := .ty "int") (by rfl) B.int (by decide +kernel) rfl) pa_nil)))) (pss_one (ps_ret (pe_and (pe_callB call_isi (by rfl) B.isinstance (by decide +kernel) (pa_cons (pv 0) (pa_cons (pe_bltn (v := .ty "int") (by rfl) B.int (by decide +kernel) rfl) pa_nil))) (pe_and (pe_not (pe_callB call_isi (by rfl) B.isinstance (by decide +kernel) (pa_cons (pv 0) (pa_cons (pe_bltn (v := .ty "bool") (by rfl) B.bool (by decide +kernel) rfl) pa_nil)))) (pe_one (pe_cmpR op_eq (pv 0) (pv 1) (nomark _)))))))
 pss_nil)
 (pss_cons (ps_if (pt_val (pe_callB call_isi (by rfl) B.isinstance (by decide +kernel) (pa_cons (pv 1) (pa_cons (pe_bltn (v := .ty "str") (by rfl) B.str (by decide +kernel) rfl) pa_nil)))) (pss_one (ps_ret (pe_and (pe_callB call_isi (by rfl) B.isinstance (by decide +kernel) (pa_cons (pv 0) (pa_cons (pe_bltn (v := .ty "str") (by rfl) B.str (by decide +kernel) rfl) pa_nil))) (pe_one (pe_cmpR op_eq (pv 0) (pv 1) (nomark _))))))
 pss_nil)
 (pss_cons (ps_if (PW.pt (pw_or (pt_cmpR op_ne (pe_callB call_isi (by rfl) B.isinstance (by decide +kernel) (pa_cons (pv 1) (pa_cons (pe_bltn (v := .ty "tuple") (by rfl) B.tuple (by decide +kernel) rfl) pa_nil))) (pe_callB call_isi (by rfl) B.isinstance (by decide +kernel) (pa_cons (pv 0) (pa_cons (pe_bltn (v := .ty "tuple") (by rfl) B.tuple (by decide +kernel) rfl) pa_nil))) (nomark _)) (pw_or1 (pt_cmpR op_ne (pe_callB call_isi (by rfl) B.isinstance (by decide +kernel) (pa_cons (pv 1) (pa_cons (pe_bltn (v := .ty "list") (by rfl) B.list (by decide +kernel) rfl) pa_nil))) (pe_callB call_isi (by rfl) B.isinstance (by decide +kernel) (pa_cons (pv 0) (pa_cons (pe_bltn (v := .ty "list") (by rfl) B.list (by decide +kernel) rfl) pa_nil))) (nomark _))))) (pss_one (ps_ret pe_bl))
 pss_nil)
 (pss_cons (ps_if (pt_cmpR op_ne (pe_callB call_len_seq (by rfl) B.len PySem.boot_len (pa_cons (pv 0) pa_nil)) (pe_callB call_len_seq (by rfl) B.len PySem.boot_len (pa_cons (pv 1) pa_nil)) (nomark _)) (pss_one (ps_ret pe_bl))
 pss_nil)
 (pss_one (ps_ret (pe_callB (cr_all rfl) (by rfl) B.all (by decide +kernel) (pa_cons (pe_lc (own := [("_law_k", 2)]) (g := gName 2) rfl sc_law_alike.nd (pi_range1 (by rfl) B.range (pa_cons (pe_callB call_len_seq (by rfl) B.len PySem.boot_len (pa_cons (pv 1) pa_nil)) pa_nil)) (blkOk_by (N := ["_law_found", "_law_due", "_law_k"]) (sc := defScope s_law_alike) (by decide +kernel)) (fun _ _ _ _ _ => (pg_name (i := 2) sc_law_alike.nd rfl (Or.inl rfl))) (fun _ _ _ _ _ => pts_nil) (fun _ _ _ _ _ => (pe_callC c_law_alike hr (Nat.le_refl _) (pa_cons (pe_ix (r := rIx K) ix_seq (pv 0) (pv 2) (fun _ _ => rfl)) (pa_cons (pe_ix (r := rIx K) ix_seq (pv 1) (pv 2) (fun _ _ => rfl)) pa_nil))))) pa_nil)))))))))), ?_⟩
    have hcase : (v = u ∧ sc1 v = true) ∨ ∃ m, n = m + 1 ∧ ∃ a b xs ys, v = .ref a ∧ u = .ref b ∧ ((SqL K H a xs ∧ SqL K H b ys) ∨ (SqT K H a xs ∧ SqT K H b ys)) ∧ xs.length = ys.length ∧ xs.length ≤ 40000 ∧
        ∀ (i : Nat) x y, xs[i]? = some x → ys[i]? = some y → Al K H m x y := by
      cases n with
      | zero => exact .inl ha
      | succ m =>
        rcases ha with h | h
        · exact .inl h
        · exact .inr ⟨m, rfl, h⟩
    rcases hcase with ⟨rfl, hv⟩ | ⟨m, hm, a, b, xs, ys, rfl, rfl, hq, hlen, hz, hi⟩
    · cases v with
      | non =>
        refine q_when (b := true) (et_is (et_test (ev_isN (x := .non) (ev_var rfl))) rfl) (fun _ H1 e1 => ?_) (fun hb => nomatch hb)
        exact s_ret (v := .bl true) (ev_isN (x := .non) (ev_var rfl)) fun H2 e2 => k H2 (e1.trans e2)
      | bl c =>
        refine q_when (b := false) (et_is (et_test (ev_isN (x := .bl c) (ev_var rfl))) rfl) (fun hb => nomatch hb) (fun _ H1 e1 => ?_)
        refine q_when (b := true) (et_B (ev_isi (a := "bool") (ev_var rfl) (fun _ _ => .base (.bl c)) (by decide +kernel))) (fun _ H2 e2 => ?_) (fun hb => nomatch hb)
        exact s_ret (v := .bl true) (ev_andV (a := true) (ev_isi (a := "bool") (ev_var rfl) (fun _ _ => .base (.bl c)) (by decide +kernel)) (fun _ => ev_is (ev_op (ev_var rfl) (ev_var rfl) (rv_eq (x := .bl c) (y := .bl c) rfl)) (by rw [decide_eq_true rfl]))) fun H3 e3 => k H3 ((e1.trans e2).trans e3)
      | int c =>
        refine q_when (b := false) (et_is (et_test (ev_isN (x := .int c) (ev_var rfl))) rfl) (fun hb => nomatch hb) (fun _ H1 e1 => ?_)
        refine q_when (b := false) (et_B (ev_isi (a := "int") (ev_var rfl) (fun _ _ => .base (.int c)) (by decide +kernel))) (fun hb => nomatch hb) (fun _ H2 e2 => ?_)
        refine q_when (b := true) (et_B (ev_isi (a := "int") (ev_var rfl) (fun _ _ => .base (.int c)) (by decide +kernel))) (fun _ H3 e3 => ?_) (fun hb => nomatch hb)
        exact s_ret (v := .bl true) (ev_andV (a := true) (ev_isi (a := "int") (ev_var rfl) (fun _ _ => .base (.int c)) (by decide +kernel)) (fun _ => ev_andV (a := true) (b := true) (ev_notV (a := false) (ev_isi (a := "int") (ev_var rfl) (fun _ _ => .base (.int c)) (by decide +kernel))) (fun _ => ev_is (ev_op (ev_var rfl) (ev_var rfl) (rv_eq (x := .int c) (y := .int c) rfl)) (by rw [decide_eq_true rfl])))) fun H4 e4 => k H4 (((e1.trans e2).trans e3).trans e4)
      | str c =>
        refine q_when (b := false) (et_is (et_test (ev_isN (x := .str c) (ev_var rfl))) rfl) (fun hb => nomatch hb) (fun _ H1 e1 => ?_)
        refine q_when (b := false) (et_B (ev_isi (a := "str") (ev_var rfl) (fun _ _ => .base (.str c)) (by decide +kernel))) (fun hb => nomatch hb) (fun _ H2 e2 => ?_)
        refine q_when (b := false) (et_B (ev_isi (a := "str") (ev_var rfl) (fun _ _ => .base (.str c)) (by decide +kernel))) (fun hb => nomatch hb) (fun _ H3 e3 => ?_)
        refine q_when (b := true) (et_B (ev_isi (a := "str") (ev_var rfl) (fun _ _ => .base (.str c)) (by decide +kernel))) (fun _ H4 e4 => ?_) (fun hb => nomatch hb)
        exact s_ret (v := .bl true) (ev_andV (a := true) (ev_isi (a := "str") (ev_var rfl) (fun _ _ => .base (.str c)) (by decide +kernel)) (fun _ => ev_is (ev_op (ev_var rfl) (ev_var rfl) (rv_eq (x := .str c) (y := .str c) rfl)) (by rw [decide_eq_true rfl]))) fun H5 e5 => k H5 ((((e1.trans e2).trans e3).trans e4).trans e5)
      | byt c => cases hv
      | flt c => cases hv
      | ref c => cases hv
      | ty c => cases hv
    · -- a list or a tuple
      obtain ⟨T, rt, rl, hkb, hki, hks, hkt, hkl, htA, htB⟩ : ∃ (T : String) (rt rl : Bool), kitB T "bool" = some false ∧ kitB T "int" = some false ∧ kitB T "str" = some false ∧ kitB T "tuple" = some rt ∧ kitB T "list" = some rl ∧ (∀ H', Ex H H' → TyX K H' (.ref a) (.type T)) ∧ (∀ H', Ex H H' → TyX K H' (.ref b) (.type T)) := by
        rcases hq with ⟨h1, h2⟩ | ⟨h1, h2⟩
        · exact ⟨"list", false, true, by decide +kernel, by decide +kernel, by decide +kernel, by decide +kernel, by decide +kernel, fun H' e => ty_l (ex_l e h1), fun H' e => ty_l (ex_l e h2)⟩
        · exact ⟨"tuple", true, false, by decide +kernel, by decide +kernel, by decide +kernel, by decide +kernel, by decide +kernel, fun H' e => ty_t (ex_t e h1), fun H' e => ty_t (ex_t e h2)⟩
      have hqA : ∀ {H'}, Ex H H' → SqL K H' a xs ∨ SqT K H' a xs := fun e => by
        rcases hq with ⟨h1, h2⟩ | ⟨h1, h2⟩
        · exact .inl (ex_l e h1)
        · exact .inr (ex_t e h1)
      have hqB : ∀ {H'}, Ex H H' → SqL K H' b ys ∨ SqT K H' b ys := fun e => by
        rcases hq with ⟨h1, h2⟩ | ⟨h1, h2⟩
        · exact .inl (ex_l e h2)
        · exact .inr (ex_t e h2)
      have isA : ∀ {H' : Hp} {y : Option V} {T' : String} {r : Bool}, Ex H H' → kitB T T' = some r → Ev (tCB (rIsi K) (tCons (tVar 0) (tCons (tC (.ty T')) tNil))) [some (.ref a), some (.ref b), y] H' (.bl r) := fun e hk => ev_isi (ev_var rfl) (fun H1 e1 => htA H1 (e.trans e1)) hk
      have isB : ∀ {H' : Hp} {y : Option V} {T' : String} {r : Bool}, Ex H H' → kitB T T' = some r → Ev (tCB (rIsi K) (tCons (tVar 1) (tCons (tC (.ty T')) tNil))) [some (.ref a), some (.ref b), y] H' (.bl r) := fun e hk => ev_isi (ev_var rfl) (fun H1 e1 => htB H1 (e.trans e1)) hk
      have lnA : ∀ {H' : Hp} {y : Option V}, Ex H H' → Ev (tCB (rLenS K) (tCons (tVar 0) tNil)) [some (.ref a), some (.ref b), y] H' (.int (xs.length : Nat)) := fun e => fun H1 e1 Q q => ⟨.ref a, rfl, a, xs, rfl, hqA (e.trans e1), q H1 (Ex.refl H1)⟩
      have lnB : ∀ {H' : Hp} {y : Option V}, Ex H H' → Ev (tCB (rLenS K) (tCons (tVar 1) tNil)) [some (.ref a), some (.ref b), y] H' (.int (ys.length : Nat)) := fun e => fun H1 e1 Q q => ⟨.ref b, rfl, b, ys, rfl, hqB (e.trans e1), q H1 (Ex.refl H1)⟩
      refine q_when (b := false) (et_is (et_test (ev_isN (x := .ref b) (ev_var rfl))) rfl) (fun hb => nomatch hb) (fun _ H1 e1 => ?_)
      refine q_when (b := false) (et_B (isB e1 hkb)) (fun hb => nomatch hb) (fun _ H2 e2 => ?_)
      have e12 := e1.trans e2
      refine q_when (b := false) (et_B (isB e12 hki)) (fun hb => nomatch hb) (fun _ H3 e3 => ?_)
      have e13 := e12.trans e3
      refine q_when (b := false) (et_B (isB e13 hks)) (fun hb => nomatch hb) (fun _ H4 e4 => ?_)
      have e14 := e13.trans e4
      refine q_when (b := false) (et_is (et_or (a := !decide (V.bl rt = V.bl rt)) (b := !decide (V.bl rl = V.bl rl)) (et_test (ev_op (isB e14 hkt) (isA e14 hkt) (rv_ne rfl))) (fun _ => et_test (ev_op (isB e14 hkl) (isA e14 hkl) (rv_ne rfl)))) (by rw [decide_eq_true rfl, decide_eq_true rfl]; rfl)) (fun hb => nomatch hb) (fun _ H5 e5 => ?_)
      have e15 := e14.trans e5
      refine q_when (b := false) (et_is (et_test (ev_op (lnA e15) (lnB e15) (rv_ne rfl))) (by rw [hlen, decide_eq_true rfl]; rfl)) (fun hb => nomatch hb) (fun _ H6 e6 => ?_)
      have e16 := e15.trans e6
      have el : EvL (tLc (iRng1 (tCons (tCB (rLenS K) (tCons (tVar 1) tNil)) tNil)) (gName 2) tYes (tCall sp' [] E0 (tCons (tOp (rIx K) (tVar 0) (tVar 2)) (tCons (tOp (rIx K) (tVar 1) (tVar 2)) tNil))) [2]) [some (.ref a), some (.ref b), none] H6 (given ys.length (fun _ => true) (fun _ => .bl true)) := by
        refine el_lcR1 (n := ((ys.length : Nat) : Int)) (fun _ => true) (fun _ => .bl true) (ea_cons (lnB e16) ea_nil) (by omega) (fun _ => rfl) (fun i H7 e7 hi' => fun H8 e8 Q q => q H8 (Ex.refl H8)) (fun i H7 e7 hi' _ => ?_)
        have hix : i < xs.length := by omega
        have hiy : i < ys.length := by omega
        have gx := List.getElem?_eq_getElem hix
        have gy := List.getElem?_eq_getElem hiy
        have e17 := e16.trans e7
        have evA : Ev (tOp (rIx K) (tVar 0) (tVar 2)) [some (.ref a), some (.ref b), some (.int (i : Nat))] H7 xs[i] := ev_op (ev_var rfl) (ev_var rfl) fun H8 e8 Q q => by
          rcases hqA (e17.trans e8) with h | h
          · exact .inl ⟨a, xs, (i : Nat), _, rfl, rfl, h, atI_nat gx, q H8 (Ex.refl H8)⟩
          · exact .inr (.inl ⟨a, xs, (i : Nat), _, rfl, rfl, h, atI_nat gx, q H8 (Ex.refl H8)⟩)
        have evB : Ev (tOp (rIx K) (tVar 1) (tVar 2)) [some (.ref a), some (.ref b), some (.int (i : Nat))] H7 ys[i] := ev_op (ev_var rfl) (ev_var rfl) fun H8 e8 Q q => by
          rcases hqB (e17.trans e8) with h | h
          · exact .inl ⟨b, ys, (i : Nat), _, rfl, rfl, h, atI_nat gy, q H8 (Ex.refl H8)⟩
          · exact .inr (.inl ⟨b, ys, (i : Nat), _, rfl, rfl, h, atI_nat gy, q H8 (Ex.refl H8)⟩)
        exact ev_call (ea_cons evA (ea_cons evB ea_nil)) (hs m hm H7 _ _ ((hi i _ _ gx gy).up e17))
      refine s_ret (v := .bl true) (ev_cbL el fun p H7 h7 e7 H8 e8 Q q => ⟨p, List.replicate ys.length true, rfl, ?_, ?_⟩) fun H7 e7 => k H7 (e16.trans e7)
      · refine sq_of ((e8 _ _ h7).trans ?_)
        congr 2
        unfold given
        rw [List.filter_eq_self.mpr (fun _ _ => rfl), List.map_replicate]
        exact List.map_const' .. |>.trans (by rw [List.length_range])
      · have ht : (List.replicate ys.length true).all id = true := by
          rw [List.all_eq_true]
          intro z hz
          exact (List.eq_of_mem_replicate hz)
        rw [ht]
        exact q H8 (Ex.refl H8)
theorem ok_law_alike (D : Def1 K mg "_law_alike" s_law_alike) (B : Bl mg) : ∀ n, Cal P w K mg base (n + 1) "_law_alike" ["_law_found", "_law_due"] (spAlike K n)
  | 0 => by
    obtain ⟨f, fd, F, hm⟩ := D.ex
    have C0 : Cal P w K mg base 0 "_law_alike" ["_law_found", "_law_due"] (fun _ _ _ _ => False) := ⟨f, fd, ⟨fun _ _ _ _ h => h.elim, fun _ _ _ _ _ _ _ _ _ _ _ _ _ h => h.elim⟩, hm, F.kp, F.bindsN (fun _ _ _ _ _ _ us hl => match us, hl with | [_, _], _ => rfl), by
      obtain ⟨oc, od, _, _, _, _, _, _, _, osl, _, lk, _⟩ := F.ex
      exact ⟨oc, od, osl, lk⟩⟩
    exact alike_turn D B C0 fun m h => nomatch h
  | n + 1 => alike_turn D B (ok_law_alike D B n) fun m h H x y ha H1 e Q q E => by
    cases h
    exact ⟨x, y, rfl, ha.up e, q⟩
end
end Bm
namespace Bm
open PySem PySem.Spec PyProof.Rows L2 Evl
section
variable {P : Program} {w : World} {K : PySem.W.Frag} {mg : PySem.Str → Option Value} {base : Heap}
/-! ### _law_pattern -/
abbrev s_law_pattern : Stmt := topS 41
theorem sc_law_pattern : FnScope ["_law_d", "_law_most", "_law_often", "_law_found", "_law_at", "_law_k"] ["_law_d", "_law_most"] (defScope s_law_pattern) := ⟨rfl, rfl, rfl, by decide +kernel, rfl, by decide +kernel, by decide +kernel⟩
def spPattern : Sp := fun vs H Q _ => ∃ (D : Addr) (G : Hp) (m : Nat), vs = [.ref D, .int (m : Nat)] ∧ DD D G H ∧ (0 < m ∧ m ≤ 12) ∧ ∀ (p : List Bool) (H2 : Hp), Pat m p → DD D G H2 → Q (.str (txt p)) H2
def rInt1 : List V → Hp → VK → Prop := fun xs H Q => (∃ i, xs = [.int i] ∧ Q (.int i) H) ∨ ∃ k, xs = [.bl k] ∧ Q (.int (if k then 1 else 0)) H
theorem ok_law_pattern (D : Def1 K mg "_law_pattern" s_law_pattern) (B : Bl mg) (c_law_off : Cal P w K mg base 1 "_law_off" ["_law_d", "_law_most"] spOff) : Cal P w K mg base 2 "_law_pattern" ["_law_d", "_law_most"] spPattern := by
  refine D.cal sc_law_pattern (fun _ _ _ _ _ _ us hl => match us, hl with | [_, _], _ => rfl) (fun vs H Q E h => ?_) (fun f cdv A outer s H vs Q E hr h => ?_)
  · obtain ⟨D, G, m, rfl, _⟩ := h
    rfl
  · obtain ⟨D, G, m, rfl, d, ⟨hm, hm2⟩, k⟩ := h
    refine ⟨_, (pss_cons (ps_set (i := 2) sc_law_pattern.nd rfl (Or.inr rfl) (pe_op op_add pe_int (pe_callC c_law_off hr (by decide) (pa_cons (pv 0) (pa_cons pe_int pa_nil)))))
 (pss_cons (ps_set (i := 3) sc_law_pattern.nd rfl (Or.inl rfl) (pe_join pe_str (pe_lc (own := [("_law_k", 5)]) (g := gName 5) rfl sc_law_pattern.nd (pi_range1 (by rfl) B.range (pa_cons (pe_op op_add pe_int (pe_callC c_law_off hr (by decide) (pa_cons (pv 0) (pa_cons (pv 1) pa_nil)))) pa_nil)) (blkOk_by (N := ["_law_d", "_law_most", "_law_often", "_law_found", "_law_at", "_law_k"]) (sc := defScope s_law_pattern) (by decide +kernel)) (fun _ _ _ _ _ => (pg_name (i := 5) sc_law_pattern.nd rfl (Or.inl rfl))) (fun _ _ _ _ _ => pts_nil) (fun _ _ _ _ _ => (pe_ix ix_str pe_str (pe_callTy call_int1 (by rfl) B.int (by decide +kernel) (pa_cons (pe_cmpR op_eq (pe_callC c_law_off hr (by decide) (pa_cons (pv 0) (pa_cons (pv 2) pa_nil))) pe_int (nomark _)) pa_nil)) (fun _ _ => rfl))))))
 (pss_cut (ps_if (pt_cmpR op_notIn_sign pe_str (pv 3) (by rfl)) (pss_cons (ps_set (i := 4) sc_law_pattern.nd rfl (Or.inl rfl) (pe_callC c_law_off hr (by decide) (pa_cons (pv 0) (pa_cons (pe_callB call_len_str (by rfl) B.len PySem.boot_len (pa_cons (pv 3) pa_nil)) pa_nil))))
 (pss_one (ps_set (i := 3) sc_law_pattern.nd rfl (Or.inl rfl) (pe_op op_add_str (pe_op op_add_str (pe_slice sl_str (pv 3) po_none (po_some (pv 4))) pe_str) (pe_slice sl_str (pv 3) (po_some (pe_op op_add (pv 4) pe_int)) po_none)))))
 pss_nil)
 (pss_one (ps_ret (pv 3)))))), ?_⟩
    -- often
    refine r_qasg (r_cOff (c := 1) (m := 4) d (by decide) (ea_cons (ev_var rfl) (ea_cons ev_c ea_nil)) fun r0 H1 hr0 _ d1 => ?_)
    -- how many
    refine r_qasg (te := tM1 _ _ _) ⟨⟨_, rfl⟩, ?_⟩
    refine r_cOff (c := 1) (m := m) (ta := tCons (tVar 0) (tCons (tVar 1) tNil)) d1 (by omega) (ea_cons (ev_var rfl) (ea_cons (ev_var rfl) ea_nil)) fun r1 H2 hr1 _ d2 => ?_
    refine ⟨_, rfl, by omega, by omega, fun Dl hDl => ?_⟩
    have hDD : Dl ≠ D := by
      obtain ⟨ds, _, h⟩ := d2.at_
      exact (ne_of_none h hDl).symm
    have hG : G Dl = none := fresh_back d2.ex hDl
    have dnew : ∀ {H' : Hp} {xs : List V}, DD D G H' → DD D G (upd H' Dl (.lst xs)) := fun d' => by
      obtain ⟨ds, h2, h⟩ := d'.at_
      exact ⟨d'.no, fun a o q => by rw [upd_ne (ne_of_none q hG)]; exact d'.ex a o q, ds, h2, by rw [upd_ne hDD.symm]; exact h⟩
    refine lc_range (lo := 0) (n := (((1 + r1 : Nat) : Int)).toNat) (fun i H' => ∃ bs : List Bool, bs.length = i ∧ DD D G H' ∧ H' Dl = some (.lst (bs.map fun b => .str ⟨#[sg b]⟩))) ⟨[], rfl, dnew d2, upd_same⟩ (fun i H' hi p => ?_) (fun H' p => ?_)
    · obtain ⟨bs, hbs, d', hl⟩ := p
      refine ⟨rfl, r_yes ?_⟩
      refine r_op ev_c fun H0 e0 => r_cb1 (r_opc (r_off (m := 1 + r0) (d'.up e0) (by omega) (ea_cons (ev_var rfl) (ea_cons (ev_var rfl) ea_nil)) fun r2 H3 hr2 e3 d3 => ⟨rfl, .inr ⟨_, rfl, ?_⟩⟩))
      have hb : ∀ c : Bool, atI (("01" : PySem.Str)).cps.toList (if c = true then 1 else 0) = some (sg c) := by decide
      refine ⟨"01", _, _, rfl, rfl, by decide, hb _, ?_⟩
      have hl3 := e3 _ _ hDD (e0 _ _ hl)
      refine ⟨_, hl3, by rw [List.length_map]; exact small1000 (by omega), bs ++ [decide (V.int (r2 : Nat) = V.int 0)], by simp [hbs], dnew d3, ?_⟩
      rw [upd_same, List.map_append]
      rfl
    · obtain ⟨bs, hbs, d', hl⟩ := p
      have hlen : 1 ≤ bs.length ∧ bs.length ≤ m := by omega
      refine ⟨"", Dl, bs.map fun b => ⟨#[sg b]⟩, rfl, rfl, .inl (sq_of (hl.trans (by rw [List.map_map]; rfl))), ?_, ?_⟩
      · have hs : ((bs.map fun b => (⟨#[sg b]⟩ : PySem.Str)).map (·.length)).sum = bs.length := by
          rw [List.map_map]
          have : ∀ l : List Bool, (l.map ((fun z : PySem.Str => z.length) ∘ fun b => (⟨#[sg b]⟩ : PySem.Str))).sum = l.length := by
            intro l
            induction l with
            | nil => rfl
            | cons a l ih =>
              rw [List.map_cons, List.sum_cons, ih, List.length_cons]
              show 1 + l.length = l.length + 1
              omega
          exact this bs
        rw [hs]
        show bs.length + _ * 0 ≤ 16777216
        omega
      · rw [join_txt]
        refine q_cut (M := fun σ H' => (∃ (p : List Bool) (z : Option V), σ = [some (.ref D), some (.int (m : Nat)), some (.int ((1 + r0 : Nat) : Int)), some (.str (txt p)), z, none] ∧ Pat m p) ∧ DD D G H') ?_ ?_
        · refine s_when (b := !decide (true ∈ bs)) (et_test (ev_no1in ev_c (ev_var rfl))) (fun hb H3 e3 => ?_) (fun hb H3 e3 => ?_)
          · refine r_qasg (r_off (m := bs.length) (d'.up e3) (by omega) (ea_cons (ev_var rfl) (ea_cons (ev_lenS (ev_var rfl) (by omega)) ea_nil)) fun r H4 hr _ d4 => ?_)
            have h1 : Ev (tC (.str "1")) [some (.ref D), some (.int (m : Nat)), some (.int ((1 + r0 : Nat) : Int)), some (.str (txt bs)), some (.int (r : Nat)), none] H4 (.str (txt [true])) := ev_c
            refine s_asg (v := .str (txt ((bs.take r ++ [true]) ++ bs.drop (r + 1)))) (ev_addS (ev_addS (ev_take (ev_var rfl) (ev_var rfl) (by omega)) h1 (by simp; omega)) (ev_drop (ev_var rfl) (ev_addN (ev_var rfl) (ev_c (v := .int ((1 : Nat) : Int)))) (by omega)) (by simp; omega)) fun H5 e5 => ?_
            refine ⟨⟨_, _, rfl, ⟨?_, ?_, ?_⟩⟩, d4.up e5⟩
            · simp
              omega
            · simp
              omega
            · simp
          · exact ⟨⟨bs, _, rfl, ⟨hlen.1, hlen.2, by simpa using hb⟩⟩, d'.up e3⟩
        · rintro σ' H' ⟨⟨p, z, rfl, hp⟩, d4⟩
          exact s_ret (v := .str (txt p)) (ev_var rfl) fun H3 e3 => k p H3 hp (d4.up e3)
theorem pattern_of {D : Addr} {G H : Hp} {m : Nat} {Q : VK} {E : XK} (d : DD D G H) (hm : 0 < m ∧ m ≤ 12) (k : ∀ (p : List Bool) (H2 : Hp), Pat m p → DD D G H2 → Q (.str (txt p)) H2) : spPattern [.ref D, .int (m : Nat)] H Q E :=
  ⟨D, G, m, rfl, d, hm, k⟩
theorem r_pattern {σ : L2.St} {ta : TA} {D : Addr} {G H : Hp} {m : Nat} {Q : VK} (d : DD D G H) (hm : 0 < m ∧ m ≤ 12) (h : EvA ta σ H [.ref D, .int (m : Nat)]) (k : ∀ (p : List Bool) (H2 : Hp), Pat m p → DD D G H2 → Q (.str (txt p)) H2) : tCall spPattern [] E0 ta σ H Q :=
  h H (Ex.refl H) _ fun H1 e1 => pattern_of (d.up e1) hm k
end
end Bm
namespace Bm
open PySem PySem.Spec PyProof.Rows L2 Evl
section
variable {P : Program} {w : World} {K : PySem.W.Frag} {mg : PySem.Str → Option Value} {base : Heap}
/-! ### _law_asked -/
abbrev s_law_asked : Stmt := topS 42
theorem sc_law_asked : FnScope ["_law_kind", "_law_one", "_law_other", "_law_beats", "_law_rows"] ["_law_kind", "_law_one", "_law_other", "_law_beats", "_law_rows"] (defScope s_law_asked) := ⟨rfl, rfl, rfl, by decide +kernel, rfl, by decide +kernel, by decide +kernel⟩
def spAsked (K : PySem.W.Frag) : Sp := fun vs H Q _ => ∃ (k : Nat) (c : Case) (a : Addr), vs = [.int (k : Nat), .str (txt c.p), .str (txt c.q), .int (c.n : Nat), .ref a] ∧ k < 4 ∧ c.Ok ∧ H a = some (.lst (txV c.rows)) ∧ RetG K (askM k c) H Q
theorem isgs_cells {F : Addr → Prop} {H : Hp} : ∀ {xs : List V} {cs : List Cel}, IsAll K H xs cs → IsGs K F H xs (cs.map Nel.c)
  | _, [], h => by cases h; exact .nil
  | _, c :: cs, h => by
    cases h with
    | cons r t => exact .cons r (isgs_cells t)
theorem ok_law_asked (D : Def1 K mg "_law_asked" s_law_asked) (B : Bl mg) (c_awake : Cal P w K mg base 3 "awake" ["pattern"] spAwake) (c_turned : Cal P w K mg base 3 "turned" ["pattern", "by"] spTurned) (c_least_turn : Cal P w K mg base 3 "least_turn" ["pattern"] (spLeast K)) (c_first_meet : Cal P w K mg base 3 "first_meet" ["one", "a", "other", "b", "loose"] spFirstMeet)
    (c_worst : Cal P w K mg base 4 "worst" ["one", "other", "loose"] (spWorstP K)) (c_fewest : Cal P w K mg base 3 "fewest" ["beats"] (spFew K)) (c_paper : Cal P w K mg base 4 "paper" ["beats"] (spPaper K)) (c_front : Cal P w K mg base 4 "front" ["patterns"] (spFront K)) (c_partner : Cal P w K mg base 4 "partner" ["one", "beats", "within"] (spPartner K)) (c_shows : Cal P w K mg base 3 "shows" ["beats", "many", "told"] (spShows K)) :
    Cal P w K mg base 5 "_law_asked" ["_law_kind", "_law_one", "_law_other", "_law_beats", "_law_rows"] (spAsked K) := by
  refine D.cal sc_law_asked (fun _ _ _ _ _ _ us hl => match us, hl with | [_, _, _, _, _], _ => rfl) (fun vs H Q E h => ?_) (fun f cdv A outer s H vs Q E hr h => ?_)
  · obtain ⟨kk, c, a, rfl, _⟩ := h
    rfl
  · obtain ⟨kk, c, a, rfl, hk4, hc, ha, k⟩ := h
    refine ⟨_, (pss_cons (ps_if (pt_cmpR op_eq (pv 0) pe_int (nomark _)) (pss_one (ps_ret (pe_lst (pa_cons (pe_callC c_awake hr (by decide) (pa_cons (pv 1) pa_nil)) (pa_cons (pe_callC c_turned hr (by decide) (pa_cons (pv 1) (pa_cons pe_int pa_nil))) (pa_cons (pe_callC c_least_turn hr (by decide) (pa_cons (pv 2) pa_nil)) (pa_cons (pe_callC c_first_meet hr (by decide) (pa_cons (pv 1) (pa_cons pe_int (pa_cons (pv 2) (pa_cons pe_int (pa_cons pe_bl pa_nil)))))) pa_nil)))))))
 pss_nil)
 (pss_cons (ps_if (pt_cmpR op_eq (pv 0) pe_int (nomark _)) (pss_one (ps_ret (pe_lst (pa_cons (pe_callC c_worst hr (by decide) (pa_cons (pv 1) (pa_cons (pv 2) (pa_cons pe_bl pa_nil)))) (pa_cons (pe_callC c_worst hr (by decide) (pa_cons (pv 2) (pa_cons (pv 1) (pa_cons pe_bl pa_nil)))) (pa_cons (pe_callC c_fewest hr (by decide) (pa_cons (pv 3) pa_nil)) pa_nil))))))
 pss_nil)
 (pss_cons (ps_if (pt_cmpR op_eq (pv 0) pe_int (nomark _)) (pss_one (ps_ret (pe_callC c_paper hr (by decide) (pa_cons (pv 3) pa_nil))))
 pss_nil)
 (pss_one (ps_ret (pe_lst (pa_cons (pe_callC c_front hr (by decide) (pa_cons (pv 4) pa_nil)) (pa_cons (pe_callC c_partner hr (by decide) (pa_cons (pv 1) (pa_cons (pv 3) (pa_cons pe_int pa_nil)))) (pa_cons (pe_callC c_shows hr (by decide) (pa_cons (pv 3) (pa_cons (pv 3) (pa_cons (pe_lst pa_nil) pa_nil)))) (pa_cons (pe_callC c_front hr (by decide) (pa_cons (pe_op op_cat (pv 4) (pv 4)) pa_nil)) pa_nil)))))))))), ?_⟩
    have p12 : Pat 12 c.p := pat_le hc.p (by decide)
    have q12 : Pat 12 c.q := pat_le hc.q (by decide)
    have p0 := hc.p.lo
    have q0 := hc.q.lo
    have hn := hc.n
    have hn12 : 1 ≤ c.n ∧ c.n ≤ 12 := by omega
    refine q_when (b := decide (V.int (kk : Nat) = V.int 0)) (et_test (ev_op (ev_var rfl) ev_c (rv_eq rfl))) (fun hb H1 e1 => ?_) (fun hb H1 e1 => ?_)
    · have hk : kk = 0 := by
        have := V.int.inj (of_decide_eq_true hb)
        omega
      subst hk
      unfold askM at k
      rw [if_pos rfl] at k
      exact s_retG (K := K) e1 (eg_c (ec_ev (ev_call (ea_cons (ev_var rfl) ea_nil) fun H1 e Q k E => ⟨c.p, rfl, p12, k⟩)) (eg_c (ec_ev (ev_call (ea_cons (ev_var rfl) (ea_cons ev_c ea_nil)) fun H1 e Q k E => ⟨c.p, 0, rfl, p12, by omega, k⟩)) (eg_c (ec_call (ea_cons (ev_var rfl) ea_nil) fun H1 e Q k => ⟨c.q, rfl, q12, fun m hm => by rw [leastM_is hm]; exact k⟩) (eg_c (ec_ev (ev_call (ea_cons (ev_var rfl) (ea_cons ev_c (ea_cons (ev_var rfl) (ea_cons ev_c (ea_cons ev_c ea_nil))))) fun H1 e Q k E => ⟨c.p, c.q, 0, 0, true, rfl, p12, q12, by omega, by omega, k⟩)) eg_nil)))) (by show 4 ≤ 1000; decide) k
    have hk0 : kk ≠ 0 := fun z => by
      subst z
      exact absurd (of_decide_eq_false hb) (fun h => h rfl)
    refine q_when (b := decide (V.int (kk : Nat) = V.int 1)) (et_test (ev_op (ev_var rfl) ev_c (rv_eq rfl))) (fun hb H2 e2 => ?_) (fun hb H2 e2 => ?_)
    · have hk : kk = 1 := by
        have := V.int.inj (of_decide_eq_true hb)
        omega
      subst hk
      unfold askM at k
      rw [if_neg (by decide), if_pos rfl] at k
      exact s_retG (K := K) (e1.trans e2) (eg_c (ec_call (ea_cons (ev_var rfl) (ea_cons (ev_var rfl) (ea_cons ev_c ea_nil))) fun H1 e Q k => ⟨c.p, c.q, false, rfl, p12, q12, k⟩) (eg_c (ec_call (ea_cons (ev_var rfl) (ea_cons (ev_var rfl) (ea_cons ev_c ea_nil))) fun H1 e Q k => ⟨c.q, c.p, true, rfl, q12, p12, k⟩) (eg_c (ec_call (ea_cons (ev_var rfl) ea_nil) fun H1 e Q k => ⟨c.n, rfl, hn12, k⟩) eg_nil))) (by show 3 ≤ 1000; decide) k
    have hk1 : kk ≠ 1 := fun z => by
      subst z
      exact absurd (of_decide_eq_false hb) (fun h => h rfl)
    have e12 := e1.trans e2
    refine q_when (b := decide (V.int (kk : Nat) = V.int 2)) (et_test (ev_op (ev_var rfl) ev_c (rv_eq rfl))) (fun hb H3 e3 => ?_) (fun hb H3 e3 => ?_)
    · have hk : kk = 2 := by
        have := V.int.inj (of_decide_eq_true hb)
        omega
      subst hk
      unfold askM at k
      rw [if_neg (by decide), if_neg (by decide), if_pos rfl] at k
      have e13 := e12.trans e3
      refine s_retN (K := K) (cs := (paperM c.n).map cSI) (en_call (ea_cons (ev_var rfl) ea_nil) fun H1 e Q k => ⟨c.n, rfl, hn12, k⟩) fun p xs H4 hp e4 h4 i4 => k p xs H4 (fresh_back e13 hp) (e13.trans e4) h4 ?_
      have := isgs_cells (F := fun b => H b = none ∧ b ≠ p) i4
      rw [List.map_map] at this
      exact this
    have hk2 : kk ≠ 2 := fun z => by
      subst z
      exact absurd (of_decide_eq_false hb) (fun h => h rfl)
    unfold askM at k
    rw [if_neg hk0, if_neg hk1, if_neg hk2] at k
    have e13 := e12.trans e3
    have ha3 := e13 _ _ ha
    have hrows : ∀ p ∈ c.rows ++ c.rows, Pat 12 p := fun p hp => (List.mem_append.mp hp).elim (hc.row p) (hc.row p)
    refine s_retG (K := K) e13 (eg_l e13 (el_call (ea_cons (ev_var rfl) ea_nil) fun H1 e Q k E => ⟨a, c.rows, rfl, sq_of (e _ _ ha3), hc.row, by show 3 ≤ 1000; decide, k⟩) (eg_c (ec_call (ea_cons (ev_var rfl) (ea_cons (ev_var rfl) (ea_cons ev_c ea_nil))) fun H1 e Q k => ⟨c.p, c.n, 20, rfl, p12, hn12, by decide, k⟩) (eg_c (ec_ev fun H1 e Q q => ?_) (eg_l e13 (fun H1 e Q q => ?_) eg_nil)))) (by show 4 ≤ 1000; decide) k
    · exact ⟨_, rfl, _, rfl, Nat.zero_le _, fun l hl => ⟨c.n, c.n, l, [], [], rfl, hn12, Nat.le_refl _, sq_of upd_same, .nil, Nat.zero_le _, (fun r hr => nomatch hr), fun H3 e3 => q H3 ((Ex.new hl).trans e3)⟩⟩
    · exact ⟨_, rfl, _, rfl, a, a, txV c.rows, txV c.rows, rfl, rfl, e _ _ ha3, e _ _ ha3, by show 3 + 3 ≤ sizeLine; decide, fun l hl => ⟨l, c.rows ++ c.rows, rfl, sq_of (upd_same.trans (by rw [List.map_append])), hrows, by show 6 ≤ 1000; decide, fun p H3 hp e3 h3 => q p H3 (fresh_back (Ex.new hl) hp) ((Ex.new hl).trans e3) h3⟩⟩
end
end Bm
namespace Bm
open PySem PySem.Spec PyProof.Rows L2 Evl
section
variable {P : Program} {w : World} {K : PySem.W.Frag} {mg : PySem.Str → Option Value} {base : Heap}
/-! ### law -/
abbrev s_law : Stmt := topS 43
theorem sc_law : FnScope ["_law_script", "_law_d", "_law_cases", "_law_k", "_law_one", "_law_other", "_law_kept", "_law_beats", "_law_rows", "_law_kind", "_law_told", "_law_turn", "_law_handed", "_law_part"] ["_law_script"] (defScope s_law) := ⟨rfl, rfl, rfl, by decide +kernel, rfl, by decide +kernel, by decide +kernel⟩
def spLaw (K : PySem.W.Frag) : Sp := fun vs H Q _ => ∃ (a : Addr) (ns : List Int), vs = [.ref a] ∧ SqL K H a (ns.map V.int) ∧ ns.length ≤ 63 ∧ ∀ H', Q (.bl true) H'
theorem law_in {H : Hp} {a : Addr} {ns : List Int} (hl : ns.length ≤ 63) (hO : Only H) (hS : SqL K H a (ns.map V.int)) : spLaw K [.ref a] H (fun v _ => v = .bl true) fun _ _ _ => False := ⟨a, ns, rfl, hS, hl, fun _ => rfl⟩
/-! a case as it stands -/
def IsCase (H : Hp) (v : V) (c : Case) : Prop := ∃ t rl, v = .ref t ∧ H t = some (.tup [.str (txt c.p), .str (txt c.q), .int (c.n : Nat), .ref rl]) ∧ H rl = some (.lst (txV c.rows)) ∧ c.Ok
theorem IsCase.up {H H' : Hp} {v : V} {c : Case} (h : IsCase H v c) (e : Ex H H') : IsCase H' v c := by
  obtain ⟨t, rl, h1, h2, h3, h4⟩ := h
  exact ⟨t, rl, h1, e _ _ h2, e _ _ h3, h4⟩
theorem off2_at {H : Hp} {D L x : Addr} {o : HO} (h1 : x ≠ D) (h2 : x ≠ L) (h : H x = some o) : off_ (off_ H D) L x = some o := by
  unfold off_
  rw [if_neg h2, if_neg h1]
  exact h
theorem off_at {H : Hp} {D x : Addr} {o : HO} (h1 : x ≠ D) (h : H x = some o) : off_ H D x = some o := by
  unfold off_
  rw [if_neg h1]
  exact h
theorem DD.grow {D L : Addr} {G H : Hp} {o : HO} (d : DD D G H) (hL : L ≠ D) : DD D (off_ (off_ H D) L) (upd H L o) := by
  obtain ⟨ds, h2, h⟩ := d.at_
  refine ⟨by unfold off_; rw [if_neg hL.symm, if_pos rfl], fun x u q => ?_, ds, h2, by rw [upd_ne hL.symm]; exact h⟩
  unfold off_ at q
  split at q
  · cases q
  · split at q
    · cases q
    · rw [upd_ne (by assumption)]
      exact q
theorem g_four {H : Hp} {σ : L2.St} {T : Addr} {x1 x2 x3 x4 : V} {i j k l : Nat} {Q : L2.St → Hp → Prop} (hT : H T = some (.tup [x1, x2, x3, x4])) (h : Q ((((σ.set i (some x1)).set j (some x2)).set k (some x3)).set l (some x4)) H) :
    gTup K 4 (gCons (gName i) (gCons (gName j) (gCons (gName k) (gCons (gName l) gNil)))) (.ref T) σ H Q :=
  ⟨T, [x1, x2, x3, x4], rfl, .inl (.inl hT), rfl, x1, [x2, x3, x4], rfl, x2, [x3, x4], rfl, x3, [x4], rfl, x4, [], rfl, rfl, h⟩
theorem r_1off {σ : L2.St} {ta : TA} {D : Addr} {G H : Hp} {m : Nat} {Q : VK} (d : DD D G H) (hm : 0 < m ∧ m ≤ 1000000) (h : EvA ta σ H [.ref D, .int (m : Nat)]) (k : ∀ (r : Nat) (H2 : Hp), r < m → DD D G H2 → Q (.int ((1 + r : Nat) : Int)) H2) : tOp (rI0 fun i j => .int (i + j)) (tC (.int 1)) (tCall spOff [] E0 ta) σ H Q :=
  r_op ev_c fun H0 e0 => r_off (m := m) (d.up e0) hm (h.mono e0) fun r H2 hr _ d2 => ⟨1, (r : Nat), rfl, rfl, by
    have := k r H2 hr d2
    rw [Int.natCast_add] at this
    exact this⟩
/-! what was kept -/
def c0 : Case := ⟨[], [], 0⟩
noncomputable def keptM (cs : List Case) (m : Nat) : List (List Nel) := (List.range m).map fun j => askM (j % 4) (cs.getD (j / 4) c0)
theorem kept_at {cs : List Case} {m i k : Nat} {c : Case} (hk : k < 4) (hc : cs[i]? = some c) (hm : 4 * i + k < m) : (keptM cs m)[4 * i + k]? = some (askM k c) := by
  unfold keptM
  rw [List.getElem?_map, List.getElem?_range hm]
  show some (askM ((4 * i + k) % 4) (cs.getD ((4 * i + k) / 4) c0)) = _
  rw [show (4 * i + k) % 4 = k by omega, show (4 * i + k) / 4 = i by omega, List.getD_eq_getElem?_getD, hc]
  rfl
theorem kept_more {cs : List Case} {i k : Nat} {c : Case} (hk : k < 4) (hc : cs[i]? = some c) : keptM cs (4 * i + (k + 1)) = keptM cs (4 * i + k) ++ [askM k c] := by
  unfold keptM
  rw [← Nat.add_assoc, List.range_succ, List.map_append]
  congr 1
  show [askM ((4 * i + k) % 4) (cs.getD ((4 * i + k) / 4) c0)] = _
  rw [show (4 * i + k) % 4 = k by omega, show (4 * i + k) / 4 = i by omega, List.getD_eq_getElem?_getD, hc]
  rfl
def IsK (K : PySem.W.Frag) (G H : Hp) (v : V) (ns : List Nel) : Prop := ∃ r ys, v = .ref r ∧ G r = none ∧ H r = some (.lst ys) ∧ IsGs K (fun b => G b = none) H ys ns
theorem IsK.up {G H H' : Hp} {v : V} {ns : List Nel} (h : IsK K G H v ns) (e : Ex H H') : IsK K G H' v ns := by
  obtain ⟨r, ys, h1, h2, h3, h4⟩ := h
  exact ⟨r, ys, h1, h2, e _ _ h3, Paired.mapP h4 fun _ _ q => q.up e⟩
theorem IsK.b {G H H' : Hp} {v : V} {ns : List Nel} {L : Addr} {l : List V} {o : HO} (h : IsK K G H v ns) (hL : H L = some (.lst l)) (hG : G L = some o) (e : ExB L H H') : IsK K G H' v ns := by
  obtain ⟨r, ys, h1, h2, h3, h4⟩ := h
  exact ⟨r, ys, h1, h2, e _ _ (ne_of_none hG h2).symm h3, Paired.mapP h4 fun _ _ q => q.b hL e fun b hb => (ne_of_none hG hb).symm⟩
theorem IsK.off {G H : Hp} {v : V} {ns : List Nel} {L : Addr} {l : List V} {o : HO} (h : IsK K G H v ns) (hL : H L = some (.lst l)) (hG : G L = some o) : IsK K G (off_ H L) v ns := by
  obtain ⟨r, ys, h1, h2, h3, h4⟩ := h
  exact ⟨r, ys, h1, h2, off_at (ne_of_none hG h2).symm h3, Paired.mapP h4 fun _ _ q => q.off hL fun b hb => (ne_of_none hG hb).symm⟩
theorem exb_fresh {G H : Hp} {L p : Addr} {o : HO} (e : ExB L G H) (hL : H L = some o) (hp : H p = none) : G p = none := by
  cases h : G p with
  | none => rfl
  | some u =>
    have hne : p ≠ L := (ne_of_none hL hp).symm
    rw [e _ _ hne h] at hp
    cases hp
/-! what is changed behind -/
def Mut (K : PySem.W.Frag) (F : Addr → Prop) (H : Hp) (x : V) (m : Nat) : Prop := (∃ c, okN (.c c) = true ∧ Is K H x c) ∨ ∃ b l, x = .ref b ∧ F b ∧ H b = some (.lst l) ∧ l.length ≤ 1000 + m
theorem Mut.up {F : Addr → Prop} {H H' : Hp} {x : V} {m : Nat} (h : Mut K F H x m) (e : Ex H H') : Mut K F H' x m := by
  rcases h with ⟨c, h1, h2⟩ | ⟨b, l, h1, h2, h3, h4⟩
  · exact .inl ⟨c, h1, h2.up e⟩
  · exact .inr ⟨b, l, h1, h2, e _ _ h3, h4⟩
theorem Mut.more {F : Addr → Prop} {H : Hp} {x : V} {m : Nat} (h : Mut K F H x m) : Mut K F H x (m + 1) := by
  rcases h with ⟨c, h1, h2⟩ | ⟨b, l, h1, h2, h3, h4⟩
  · exact .inl ⟨c, h1, h2⟩
  · exact .inr ⟨b, l, h1, h2, h3, by omega⟩
theorem Mut.set {F : Addr → Prop} {H : Hp} {x v : V} {m : Nat} {b : Addr} {l : List V} (h : Mut K F H x m) (hb : H b = some (.lst l)) (hl : l.length ≤ 1000 + m) (hF : F b) : Mut K F (upd H b (.lst (l ++ [v]))) x (m + 1) := by
  rcases h with ⟨c, h1, h2⟩ | ⟨b', l', h1, h2, h3, h4⟩
  · exact .inl ⟨c, h1, h2.ut (ExT.upd hb)⟩
  · by_cases z : b' = b
    · subst z
      exact .inr ⟨b', _, h1, h2, upd_same, by simp; omega⟩
    · exact .inr ⟨b', l', h1, h2, by rw [upd_ne z]; exact h3, by omega⟩
theorem txV_all {H : Hp} (ps : List (List Bool)) : IsAll K H (txV ps) (ps.map fun p => Cel.v (.str (txt p))) := by
  have := vals_pr (K := K) (H := H) (txV ps)
  rw [List.map_map] at this
  exact this
theorem txV_ok (ps : List (List Bool)) : (ps.map fun p => Cel.v (.str (txt p))).all okC = true := by
  rw [List.all_map, List.all_eq_true]
  intro p _
  exact txt_ok p
theorem ok_law (D : Def1 K mg "law" s_law) (B : Bl mg) (c_law_dice : Cal P w K mg base 1 "_law_dice" ["_law_script", "_law_k"] (spDice K)) (c_law_off : Cal P w K mg base 1 "_law_off" ["_law_d", "_law_most"] spOff)
    (c_law_pattern : Cal P w K mg base 2 "_law_pattern" ["_law_d", "_law_most"] spPattern) (c_law_alike : Cal P w K mg base 3 "_law_alike" ["_law_found", "_law_due"] (spAlike K 2)) (c_law_asked : Cal P w K mg base 5 "_law_asked" ["_law_kind", "_law_one", "_law_other", "_law_beats", "_law_rows"] (spAsked K)) :
    Cal P w K mg base 6 "law" ["_law_script"] (spLaw K) := by
  refine D.cal sc_law (fun _ _ _ _ _ _ us hl => match us, hl with | [_], _ => rfl) (fun vs H Q E h => ?_) (fun f cdv A outer s H vs Q E hr h => ?_)
  · obtain ⟨a, ns, rfl, _⟩ := h
    rfl
  · obtain ⟨a, ns, rfl, hS, hl, k⟩ := h
    refine ⟨_, (pss_cons (ps_set (i := 1) sc_law.nd rfl (Or.inl rfl) (pe_callC c_law_dice hr (by decide) (pa_cons (pv 0) (pa_cons pe_int pa_nil))))
 (pss_cons (ps_set (i := 2) sc_law.nd rfl (Or.inl rfl) (pe_lst pa_nil))
 (pss_cons (ps_for PassesOwn.never rfl (pi_range1 (by rfl) B.range (pa_cons pe_int pa_nil)) (pg_name (i := 3) sc_law.nd rfl (Or.inl rfl))
 (pss_cons (ps_par rfl sc_law.nd (i := 4) (j := 5) rfl rfl (by decide) rfl rfl (pa_cons (pe_callC c_law_pattern hr (by decide) (pa_cons (pv 1) (pa_cons pe_int pa_nil))) (pa_cons (pe_callC c_law_pattern hr (by decide) (pa_cons (pv 1) (pa_cons pe_int pa_nil))) pa_nil)) (by rfl))
 (pss_one (ps_expr (pe_bm PySem.F.plainAttrs_list PySem.F.slot_list_append PySem.F.type_list_append mt_append (pv 2) (pa_cons (pe_tup (pa_cons (pv 4) (pa_cons (pv 5) (pa_cons (pe_op op_add pe_int (pe_callC c_law_off hr (by decide) (pa_cons (pv 1) (pa_cons pe_int pa_nil)))) (pa_cons (pe_lst (pa_cons (pv 4) (pa_cons (pv 5) (pa_cons (pe_op op_add_str (pv 4) (pe_slice sl_str (pv 4) po_none (po_some pe_int))) pa_nil)))) pa_nil))))) pa_nil))))))
 (pss_cons (ps_set (i := 6) sc_law.nd rfl (Or.inl rfl) (pe_lst pa_nil))
 (pss_cons (ps_for PassesOwn.never rfl (pi_list (pv 2)) (pg_tup rfl (pgs_cons (pg_name (i := 4) sc_law.nd rfl (Or.inl rfl)) (pgs_cons (pg_name (i := 5) sc_law.nd rfl (Or.inl rfl)) (pgs_cons (pg_name (i := 7) sc_law.nd rfl (Or.inl rfl)) (pgs_cons (pg_name (i := 8) sc_law.nd rfl (Or.inl rfl)) pgs_nil)))))
 (pss_one (ps_for PassesOwn.never rfl (pi_range1 (by rfl) B.range (pa_cons pe_int pa_nil)) (pg_name (i := 9) sc_law.nd rfl (Or.inl rfl))
 (pss_cons (ps_set (i := 10) sc_law.nd rfl (Or.inl rfl) (pe_callC c_law_asked hr (by decide) (pa_cons (pv 9) (pa_cons (pv 4) (pa_cons (pv 5) (pa_cons (pv 7) (pa_cons (pv 8) pa_nil)))))))
 (pss_one (ps_expr (pe_bm PySem.F.plainAttrs_list PySem.F.slot_list_append PySem.F.type_list_append mt_append (pv 6) (pa_cons (pe_lc (own := [("_law_part", 13)]) (g := gName 13) rfl sc_law.nd (pi_list (pv 10)) (blkOk_by (N := ["_law_script", "_law_d", "_law_cases", "_law_k", "_law_one", "_law_other", "_law_kept", "_law_beats", "_law_rows", "_law_kind", "_law_told", "_law_turn", "_law_handed", "_law_part"]) (sc := defScope s_law) (by decide +kernel)) (fun _ _ _ _ _ => (pg_name (i := 13) sc_law.nd rfl (Or.inl rfl))) (fun _ _ _ _ _ => pts_nil) (fun _ _ _ _ _ => (pe_ifExp (pt_val (pe_callB (r := rIsi K) call_isi (by rfl) B.isinstance (by decide +kernel) (pa_cons (pv 13) (pa_cons (pe_bltn (v := .ty "list") (by rfl) B.list (by decide +kernel) rfl) pa_nil)))) (pe_callTy (r := rListS K) call_list_of (by rfl) B.list (by decide +kernel) (pa_cons (pv 13) pa_nil)) (pv 13)))) pa_nil))))))))
 (pss_cons (ps_for PassesOwn.never rfl (pi_range1 (by rfl) B.range (pa_cons pe_int pa_nil)) (pg_name (i := 11) sc_law.nd rfl (Or.inl rfl))
 (pss_cons (ps_set (i := 3) sc_law.nd rfl (Or.inl rfl) (pe_callC c_law_off hr (by decide) (pa_cons (pv 1) (pa_cons pe_int pa_nil))))
 (pss_cons (ps_set (i := 9) sc_law.nd rfl (Or.inl rfl) (pe_callC c_law_off hr (by decide) (pa_cons (pv 1) (pa_cons pe_int pa_nil))))
 (pss_cons (ps_asg (pe_ix ix_list (pv 2) (pv 3) (fun _ _ => rfl)) (pg_tup rfl (pgs_cons (pg_name (i := 4) sc_law.nd rfl (Or.inl rfl)) (pgs_cons (pg_name (i := 5) sc_law.nd rfl (Or.inl rfl)) (pgs_cons (pg_name (i := 7) sc_law.nd rfl (Or.inl rfl)) (pgs_cons (pg_name (i := 8) sc_law.nd rfl (Or.inl rfl)) pgs_nil))))))
 (pss_cons (ps_set (i := 12) sc_law.nd rfl (Or.inl rfl) (pe_callTy call_list_of (by rfl) B.list (by decide +kernel) (pa_cons (pv 8) pa_nil)))
 (pss_cons (ps_set (i := 10) sc_law.nd rfl (Or.inl rfl) (pe_callC c_law_asked hr (by decide) (pa_cons (pv 9) (pa_cons (pv 4) (pa_cons (pv 5) (pa_cons (pv 7) (pa_cons (pv 12) pa_nil)))))))
 (pss_cons (ps_if (PW.pt (pw_or (pt_not (pt_val (pe_callC c_law_alike hr (by decide) (pa_cons (pv 10) (pa_cons (pe_ix ix_list (pv 6) (pe_op op_add (pe_op op_mul pe_int (pv 3)) (pv 9)) (fun _ _ => rfl)) pa_nil))))) (pw_or1 (pt_cmpR (op_neD hr.units) (pv 12) (pv 8) (nomark _))))) (pss_one (ps_ret pe_bl))
 pss_nil)
 (pss_cons (ps_for PassesOwn.never rfl (pi_list (pv 10)) (pg_name (i := 13) sc_law.nd rfl (Or.inl rfl))
 (pss_one (ps_if (pt_val (pe_callB call_isi (by rfl) B.isinstance (by decide +kernel) (pa_cons (pv 13) (pa_cons (pe_bltn (v := .ty "list") (by rfl) B.list (by decide +kernel) rfl) pa_nil)))) (pss_one (ps_expr (pe_bm PySem.F.plainAttrs_list PySem.F.slot_list_append PySem.F.type_list_append mt_append (pv 13) (pa_cons (pe_un un_neg pe_int) pa_nil))))
 pss_nil)))
 (pss_cons (ps_expr (pe_bm PySem.F.plainAttrs_list PySem.F.slot_list_append PySem.F.type_list_append mt_append (pv 10) (pa_cons (pe_tup pa_nil) pa_nil)))
 (pss_one (ps_expr (pe_bm0 PySem.F.plainAttrs_list PySem.F.slot_list_clear PySem.F.type_list_clear mt_clear (pv 12)))))))))))))
 (pss_one (ps_ret pe_bl)))))))), ?_⟩
    refine r_qasg (r_call (ea_cons (ev_var rfl) (ea_cons ev_c ea_nil)) fun G e1 => ⟨a, ns, 0, rfl, ex_l e1 hS, by omega, fun D ds H2 hD e2 h2 hd => ?_⟩)
    have d : DD D G H2 := ⟨hD, e2, ds, h2, hd⟩
    refine q_asgL (xs := []) (el_lst ea_nil (Nat.zero_le _)) fun CL H3 hCL e3 h3 => ?_
    have d3 := d.up e3
    have hGC : G CL = none := fresh_back d.ex hCL
    have hCD : CL ≠ D := d.ne hCL
    refine q_forR1 (n := 2) (ea_cons ev_c ea_nil) (by decide) (fun i σ H' => (∃ y3 y4 y5, σ = [some (.ref a), some (.ref D), some (.ref CL), y3, y4, y5, none, none, none, none, none, none, none, none]) ∧ ∃ (G' : Hp) (xs : List V) (cs : List Case), DD D G' H' ∧ G' CL = none ∧ H' CL = some (.lst xs) ∧ Paired (IsCase G') xs cs ∧ cs.length = i)
      (fun H1 e => ⟨⟨_, _, _, rfl⟩, G, [], [], d3.up e, hGC, e _ _ h3, .nil, rfl⟩) (fun i σ' H' hi pr => ?_) (fun σ' H' pr => ?_)
    · obtain ⟨⟨y3, y4, y5, rfl⟩, G', xs, cs, d', hGC', hC, ic, hcl⟩ := pr
      obtain ⟨dA, eA⟩ := d'.all
      have hCA : (off_ H' D) CL = some (.lst xs) := off_at hCD hC
      have hGD' := d'.no
      generalize off_ H' D = G1 at dA eA hCA
      refine r_qpar (r_pattern (m := 8) dA (by decide) (ea_cons (ev_var rfl) (ea_cons ev_c ea_nil)) fun p H4 hp d4 => r_pattern (m := 8) d4 (by decide) (ea_cons (ev_var rfl) (ea_cons ev_c ea_nil)) fun q H5 hq d5 => ⟨_, _, rfl, ?_⟩)
      have p1 := hp.hi
      refine ⟨.ref CL, rfl, Or.inl ⟨rfl, xs, sq_of (d5.ex _ _ hCA)⟩, .str (txt p), rfl, .str (txt q), rfl, ?_⟩
      refine r_1off (m := 7) d5 (by decide) (ea_cons (ev_var rfl) (ea_cons ev_c ea_nil)) fun r H6 hr d6 => ?_
      generalize hne : 1 + r = n
      let c : Case := ⟨p, q, n⟩
      have hok : c.Ok := ⟨hp, hq, by show 1 ≤ n ∧ n ≤ 7; omega⟩
      have el : EvL (tLst (tCons (tVar 4) (tCons (tVar 5) (tCons (tOp rAddS (tVar 4) (tSl rSlS (tVar 4) tNoPart (tPart (tC (.int 2))))) tNil)))) [some (.ref a), some (.ref D), some (.ref CL), some (.int (i : Nat)), some (.str (txt p)), some (.str (txt q)), none, none, none, none, none, none, none, none] H6 (txV c.rows) :=
        el_lst (ea_cons (ev_var rfl) (ea_cons (ev_var rfl) (ea_cons (ev_addS (ev_var rfl) (ev_take (p := p) (k := 2) (ev_var rfl) ev_c (by omega)) (by show p.length + (p.take 2).length ≤ 1000; rw [List.length_take]; omega)) ea_nil))) (by show 3 ≤ 100000; decide)
      refine el H6 (Ex.refl H6) _ fun rl H7 hrl e7 h7 => ⟨by show 4 ≤ sizeLine; decide, fun t ht => ?_⟩
      have d7 := (d6.up e7).up (Ex.new (o := .tup [.str (txt p), .str (txt q), .int (n : Nat), .ref rl]) ht)
      have hC7 := (e7.trans (Ex.new (o := .tup [.str (txt p), .str (txt q), .int (n : Nat), .ref rl]) ht)) _ _ (d6.ex _ _ hCA)
      have hrl7 := Ex.new (o := .tup [.str (txt p), .str (txt q), .int (n : Nat), .ref rl]) ht _ _ h7
      have htD : t ≠ D := (d6.up e7).ne ht
      have hrD : rl ≠ D := d6.ne hrl
      have htC : t ≠ CL := (ne_of_none (e7 _ _ (d6.ex _ _ hCA)) ht).symm
      have hrC : rl ≠ CL := (ne_of_none (d6.ex _ _ hCA) hrl).symm
      have ht7 : upd H7 t (.tup [.str (txt p), .str (txt q), .int (n : Nat), .ref rl]) t = some (.tup [.str (txt p), .str (txt q), .int (n : Nat), .ref rl]) := upd_same
      generalize upd H7 t (.tup [.str (txt p), .str (txt q), .int (n : Nat), .ref rl]) = H8 at d7 hC7 hrl7 ht7
      have hxl : xs.length < 100000 := by
        rw [pr_len ic]
        omega
      refine ⟨CL, xs, .ref t, rfl, rfl, hC7, sz_lt hxl, ⟨_, _, _, rfl⟩, off_ (off_ H8 D) CL, xs ++ [.ref t], cs ++ [c], d7.grow hCD, by unfold off_; rw [if_pos rfl], upd_same, ?_, by rw [List.length_append, hcl]; rfl⟩
      have eG : Ex G' (off_ (off_ H8 D) CL) := fun x o hx => off2_at (ne_of_none hx hGD') (ne_of_none hx hGC') (d7.ex _ _ (eA _ _ hx))
      exact pr_app (Paired.mapP ic fun _ _ z => z.up eG) (.cons ⟨t, rl, rfl, off2_at htD htC ht7, off2_at hrD hrC hrl7, hok⟩ .nil)
    · obtain ⟨⟨y3, y4, y5, rfl⟩, G', xs, cs, d', hGC', hC, ic, hcl⟩ := pr
      have hcl : cs.length = 2 := hcl
      refine q_asgL (xs := []) (el_lst ea_nil (Nat.zero_le _)) fun KL H4 hKL e4 h4 => ?_
      have d4 := d'.up e4
      have hC4 := e4 _ _ hC
      have hKC : CL ≠ KL := ne_of_none hC hKL
      have hGK : G' KL = none := fresh_back d'.ex hKL
      have ic4 : Paired (IsCase H4) xs cs := Paired.mapP ic fun _ _ z => z.up d4.ex
      have hxs : xs.length = 2 := (pr_len ic).trans hcl
      have nK : ∀ {c : Case} {H' : Hp} {v : V}, ExB KL H4 H' → IsCase H4 v c → ∃ t rl, v = .ref t ∧ H' t = some (.tup [.str (txt c.p), .str (txt c.q), .int (c.n : Nat), .ref rl]) ∧ c.Ok ∧ (IsCase G' v c → H' rl = some (.lst (txV c.rows))) := fun {c H' v} eb ⟨t, rl, h1, h2, h3, h5⟩ =>
        ⟨t, rl, h1, eb _ _ (fun z => by rw [z, h4] at h2; cases h2) h2, h5, fun ⟨t', rl', h1', h2', h3', _⟩ => by
          rw [h1] at h1'
          cases h1'
          have h2'' := d4.ex _ _ h2'
          rw [h2] at h2''
          injection h2'' with z
          injection z with z
          injection z with _ z
          injection z with _ z
          injection z with _ z
          injection z with z _
          cases z
          exact eb _ _ (ne_of_none h3' hGK) (d4.ex _ _ h3')⟩
      refine q_forL (K := K) (a := CL) (xs := xs) (ev_var rfl) (sq_of hC4)
        (fun i σ H' => (∃ y4 y5 y7 y8 y9 y10 y13, σ = [some (.ref a), some (.ref D), some (.ref CL), y3, y4, y5, some (.ref KL), y7, y8, y9, y10, none, none, y13]) ∧ ExB KL H4 H' ∧ ∃ ks, H' KL = some (.lst ks) ∧ Paired (IsK K H4 H') ks (keptM cs (4 * i)))
        (fun H1 e => ⟨⟨_, _, _, _, _, _, _, rfl⟩, Ex.b e, [], e _ _ h4, .nil⟩) (fun i σ' H' _ pr => sq_of (pr.2.1 _ _ hKC hC4)) (fun i x σ' H' hx pr => ?_) (fun σ' H' pr => ?_)
      · obtain ⟨⟨y4, y5, y7, y8, y9, y10, y13, rfl⟩, eb, ks, hks, iks⟩ := pr
        obtain ⟨c, hci, hcc⟩ := pr_get ic hx
        obtain ⟨t, rl, rfl, ht, hok, hrl⟩ := nK eb (hcc.up d4.ex)
        have hrl := hrl hcc
        have hrK : rl ≠ KL := fun z => by
          obtain ⟨t', rl', h1', h2', h3', _⟩ := hcc
          cases h1'
          have h2'' := eb _ _ (ne_of_none h2' hGK) (d4.ex _ _ h2')
          rw [ht] at h2''
          injection h2'' with z1
          injection z1 with z1
          injection z1 with _ z1
          injection z1 with _ z1
          injection z1 with _ z1
          injection z1 with z1 _
          cases z1
          rw [z, hGK] at h3'
          cases h3'
        refine g_four (K := K) ht ?_
        refine s_forR1 (n := 4) (ea_cons ev_c ea_nil) (by decide)
          (fun j σ H'' => (∃ y9 y10 y13, σ = [some (.ref a), some (.ref D), some (.ref CL), y3, some (.str (txt c.p)), some (.str (txt c.q)), some (.ref KL), some (.int (c.n : Nat)), some (.ref rl), y9, y10, none, none, y13]) ∧ (ExB KL H4 H'' ∧ H'' rl = some (.lst (txV c.rows))) ∧ ∃ ks, H'' KL = some (.lst ks) ∧ Paired (IsK K H4 H'') ks (keptM cs (4 * i + j)))
          (fun H1 e => ⟨⟨_, _, _, rfl⟩, ⟨eb.trans (Ex.b e), e _ _ hrl⟩, ks, e _ _ hks, Paired.mapP iks fun _ _ z => z.up e⟩) (fun j σ'' H'' hj pr => ?_) (fun σ'' H'' pr => ?_)
        · obtain ⟨⟨y9, y10, y13, rfl⟩, ⟨eb, hrl⟩, ks, hks, iks⟩ := pr
          have hj4 : j < 4 := by omega
          have hkl : ks.length < 100000 := by
            have h1 := pr_len iks
            unfold keptM at h1
            rw [List.length_map, List.length_range] at h1
            have := (List.getElem?_eq_some_iff.mp hx).1
            omega
          refine r_qasg (r_call (ea_cons (ev_var rfl) (ea_cons (ev_var rfl) (ea_cons (ev_var rfl) (ea_cons (ev_var rfl) (ea_cons (ev_var rfl) ea_nil))))) fun H6 e6 => ⟨j, c, rl, rfl, hj4, hok, e6 _ _ hrl, fun r vs H7 hr7 e7 h7 i7 => ?_⟩)
          have e67 := e6.trans e7
          have hK7 := e67 _ _ hks
          refine ⟨.ref KL, rfl, Or.inl ⟨rfl, ks, sq_of hK7⟩, r_copy (K := K) (r := r) (i := 10) (j := 13) (ws := [13]) rfl h7 i7 (ask_ok j c) (by have := ask_len j hok; omega) (fun _ => rfl) (fun _ => rfl) fun p ys H8 hp e8 h8 i8 => ?_⟩
          have e68 := e67.trans e8
          have hK8 := e8 _ _ hK7
          have eb7 : ExB KL H4 H7 := eb.trans (Ex.b e67)
          have hp4 : H4 p = none := exb_fresh eb7 hK7 hp
          have hpK : p ≠ KL := (ne_of_none hK7 hp).symm
          refine ⟨KL, ks, .ref p, rfl, rfl, hK8, sz_lt hkl, ⟨_, _, _, rfl⟩, ⟨(eb.trans (Ex.b e68)).trans ExB.upd, by rw [upd_ne hrK]; exact e68 _ _ hrl⟩, _, upd_same, ?_⟩
          rw [kept_more hj4 hci]
          refine pr_app (Paired.mapP iks fun _ _ z => (z.up e68).b hK8 h4 ExB.upd) (.cons ⟨p, ys, rfl, hp4, by rw [upd_ne hpK]; exact h8, Paired.mapP i8 fun _ _ z => ?_⟩ .nil)
          exact (z.imp (F' := fun b => H4 b = none) fun b hb => exb_fresh eb7 hK7 hb.1).b hK8 ExB.upd fun b hb => (ne_of_none h4 hb).symm
        · obtain ⟨⟨y9, y10, y13, rfl⟩, ⟨eb, hrl⟩, ks, hks, iks⟩ := pr
          exact ⟨⟨_, _, _, _, _, _, _, rfl⟩, eb, ks, hks, iks⟩
      · obtain ⟨⟨y4, y5, y7, y8, y9, y10, y13, rfl⟩, eb, ks, hks, iks⟩ := pr
        rw [hxs] at iks
        obtain ⟨dsB, hdB2, hdB⟩ := d4.at_
        have hKD : KL ≠ D := d'.ne hKL
        have hBD : H' D = some (.lst (dsB.map V.int)) := eb _ _ hKD.symm hdB
        have dB : DD D (off_ H' D) H' := ⟨by unfold off_; rw [if_pos rfl], fun x o q => by
          unfold off_ at q
          split at q
          · cases q
          · exact q, dsB, hdB2, hBD⟩
        have gC : off_ H' D CL = some (.lst xs) := off_at hCD (eb _ _ hKC hC4)
        have gK : off_ H' D KL = some (.lst ks) := off_at hKD hks
        have icB : Paired (IsCase (off_ H' D)) xs cs := Paired.mapP ic fun _ _ z => z.up fun x o hx => off_at (ne_of_none hx d'.no) (eb _ _ (ne_of_none hx hGK) (d4.ex _ _ hx))
        have iksB : Paired (IsK K H4 (off_ H' D)) ks (keptM cs 8) := Paired.mapP iks fun _ _ z => z.off hBD hdB
        generalize off_ H' D = G3 at dB gC gK icB iksB
        refine q_forR1 (n := 14) (ea_cons ev_c ea_nil) (by decide) (fun i σ H5 => (∃ z3 z4 z5 z7 z8 z9 z10 z11 z12 z13, σ = [some (.ref a), some (.ref D), some (.ref CL), z3, z4, z5, some (.ref KL), z7, z8, z9, z10, z11, z12, z13]) ∧ DD D G3 H5)
          (fun H1 e => ⟨⟨_, _, _, _, _, _, _, _, _, _, rfl⟩, dB.up e⟩) (fun i σ' H5 hi pr => ?_) (fun σ' H5 pr => ?_)
        · obtain ⟨⟨z3, z4, z5, z7, z8, z9, z10, z11, z12, z13, rfl⟩, d5⟩ := pr
          refine r_qasg (r_off (m := 2) d5 (by decide) (ea_cons (ev_var rfl) (ea_cons ev_c ea_nil)) fun kk H6 hkk _ d6 => ?_)
          refine r_qasg (r_off (m := 4) d6 (by decide) (ea_cons (ev_var rfl) (ea_cons ev_c ea_nil)) fun kd H7 hkd _ d7 => ?_)
          have hkx : kk < xs.length := by omega
          obtain ⟨c, hci, hcc⟩ := pr_get icB (List.getElem?_eq_getElem hkx)
          obtain ⟨t, rl, hxt, ht, hrl, hok⟩ := hcc
          refine ⟨.ref CL, rfl, .int (kk : Nat), rfl, CL, xs, (kk : Nat), xs[kk], rfl, rfl, sq_of (d7.ex _ _ gC), atI_nat (List.getElem?_eq_getElem hkx), ?_⟩
          rw [hxt]
          refine g_four (K := K) (d7.ex _ _ ht) ?_
          refine q_asgL (el_list (K := K) (ev_var rfl) (sq_of (d7.ex _ _ hrl))) fun HL H8 hHL e8 h8 => ?_
          have d8 := d7.up e8
          have hHD : HL ≠ D := d7.ne hHL
          have hGH : G3 HL = none := fresh_back d7.ex hHL
          refine r_qasg (r_call (ea_cons (ev_var rfl) (ea_cons (ev_var rfl) (ea_cons (ev_var rfl) (ea_cons (ev_var rfl) (ea_cons (ev_var rfl) ea_nil))))) fun H9 e9 => ⟨kd, c, HL, rfl, hkd, hok, e9 _ _ h8, fun r vs H10 hr10 e10 h10 i10 => ?_⟩)
          have d9 := d8.up e9
          have d10 := d9.up e10
          have h9 := e9 _ _ h8
          have hrD : r ≠ D := d9.ne hr10
          have hGr : G3 r = none := fresh_back d9.ex hr10
          have hrH : HL ≠ r := ne_of_none h9 hr10
          obtain ⟨kv, hkv, ikv⟩ := pr_get' iksB (kept_at (m := 8) hkd hci (by omega))
          obtain ⟨r', ys, rfl, hr'0, hr', iys⟩ := ikv
          have hH10 := e10 _ _ h9
          have neq : PyData.eqv (.list ((c.rows.map fun p => Cel.v (.str (txt p))).map datC)) (.list ((c.rows.map fun p => Cel.v (.str (txt p))).map datC)) = true := SeqAt.eqv_refl _ (lay_cs (txV_ok c.rows)).1
          refine q_when (b := false) (et_is (et_or (a := false) (b := false) (et_not (a := true) (et_B (ev_call (ea_cons (ev_var rfl) (ea_cons (ev_op (ev_var rfl) (ev_addN (ev_mulN (a := 4) ev_c (ev_var rfl) (by decide)) (ev_var rfl)) (rv_ixL (K := K) (sq_of (d10.ex _ _ gK)) (atI_nat hkv))) ea_nil)) fun H1 e Q k E => ⟨_, _, rfl, al_told (K := K) (e _ _ h10) (Paired.mapP i10 fun _ _ z => z.up e) (e _ _ (d10.ex _ _ hr')) (Paired.mapP iys fun _ _ z => z.up (d10.ex.trans e)) (ask_ok kd c) (by have := ask_len kd hok; omega), k⟩))) (fun _ => et_test (ev_op (ev_var rfl) (ev_var rfl) fun H1 e1 Q q => ⟨_, _, .lst (sq_of (e1 _ _ hH10)) (dp_cs (txV_all c.rows) (txV_ok c.rows)), .lst (sq_of (e1 _ _ (d10.ex _ _ hrl))) (dp_cs (txV_all c.rows) (txV_ok c.rows)), shaped_cs (txV_ok c.rows), shaped_cs (txV_ok c.rows), by rw [neq]; exact q H1 (Ex.refl H1)⟩))) rfl) (fun hb => nomatch hb) (fun _ H11 e11 => ?_)
          have h11 := e11 _ _ h10
          have hvl : vs.length ≤ 4096 := by
            rw [pr_len i10]
            exact ask_len kd hok
          have iM : ∀ (m : Nat) x, vs[m]? = some x → Mut K (fun b => G3 b = none ∧ b ≠ D ∧ b ≠ r ∧ b ≠ HL) H11 x 0 := fun m x hx => by
            obtain ⟨cc, hcc1, hcc2⟩ := pr_get i10 hx
            have okc := List.all_eq_true.mp (ask_ok kd c) cc (List.mem_of_getElem? hcc1)
            cases cc with
            | c z => exact .inl ⟨z, okc, Is.up hcc2 e11⟩
            | l zs =>
              obtain ⟨b, rfl, ⟨hb1, hb2⟩, hb3⟩ := hcc2
              have okc : (zs.all sc1 && decide (zs.length ≤ 1000)) = true := okc
              rw [Bool.and_eq_true] at okc
              exact .inr ⟨b, zs, rfl, ⟨fresh_back d9.ex hb1, d9.ne hb1, hb2, (ne_of_none h9 hb1).symm⟩, e11 _ _ hb3, of_decide_eq_true okc.2⟩
          refine q_forLn (K := K) (a := r) (xs := vs) (ev_var rfl) (sq_of h11)
            (fun m σ H12 => (∃ w13, σ = [some (.ref a), some (.ref D), some (.ref CL), some (.int (kk : Nat)), some (.str (txt c.p)), some (.str (txt c.q)), some (.ref KL), some (.int (c.n : Nat)), some (.ref rl), some (.int (kd : Nat)), some (.ref r), some (.int (i : Nat)), some (.ref HL), w13]) ∧ DD D G3 H12 ∧ H12 r = some (.lst vs) ∧ H12 HL = some (.lst (txV c.rows)) ∧ ∀ (j : Nat) x, vs[j]? = some x → Mut K (fun b => G3 b = none ∧ b ≠ D ∧ b ≠ r ∧ b ≠ HL) H12 x m)
            (fun H1 e => ⟨⟨_, rfl⟩, (d10.up e11).up e, e _ _ h11, e _ _ (e11 _ _ hH10), fun j x hx => (iM j x hx).up e⟩) (fun m σ' H12 _ pr => sq_of pr.2.2.1) (fun m x σ' H12 hx pr => ?_) (fun σ' H12 pr => ?_)
          · obtain ⟨⟨w13, rfl⟩, d12, hr12, hH12, im⟩ := pr
            have hmv : m < vs.length := (List.getElem?_eq_some_iff.mp hx).1
            rcases im m x hx with ⟨cc, okc, icc⟩ | ⟨b, l, rfl, hF, hb, hll⟩
            · refine s_when (b := false) (et_B (ev_isList (K := K) (F := fun _ => True) (c := .c cc) (ev_var rfl) icc okc)) (fun hb => nomatch hb) (fun _ H13 e13 => ?_)
              exact ⟨⟨_, rfl⟩, d12.up e13, e13 _ _ hr12, e13 _ _ hH12, fun j y hy => ((im j y hy).up e13).more⟩
            · have hisl : Ev (tCB (rIsi K) (tCons (tVar 13) (tCons (tC (.ty "list")) tNil))) [some (.ref a), some (.ref D), some (.ref CL), some (.int (kk : Nat)), some (.str (txt c.p)), some (.str (txt c.q)), some (.ref KL), some (.int (c.n : Nat)), some (.ref rl), some (.int (kd : Nat)), some (.ref r), some (.int (i : Nat)), some (.ref HL), some (.ref b)] H12 (.bl true) := ev_isi (ev_var rfl) (fun H1 e => ty_l (sq_of (e _ _ hb))) kl_list
              refine s_when (b := true) (et_B hisl) (fun _ H13 e13 => ?_) (fun hb => nomatch hb)
              have hb13 := e13 _ _ hb
              refine s_app (K := K) hb13 (ev_var rfl) (v := .int (-1)) (ev_un ev_c ru_neg) (by omega) fun H14 e14 => ?_
              have e134 := e13.trans e14
              have hb14 := e14 _ _ hb13
              exact ⟨⟨_, rfl⟩, (d12.up e134).set hF.1 hF.2.1, by rw [upd_ne hF.2.2.1.symm]; exact e134 _ _ hr12, by rw [upd_ne hF.2.2.2.symm]; exact e134 _ _ hH12, fun j y hy => ((im j y hy).up e134).set hb14 hll hF⟩
          · obtain ⟨⟨w13, rfl⟩, d12, hr12, hH12, im⟩ := pr
            refine q_appU (K := K) (ys := []) hr12 (ev_var rfl) (eu_tup ea_nil (Nat.zero_le _)) (by omega) fun p H13 hp e13 h13 => ?_
            have hH13 : (upd H13 r (.lst (vs ++ [.ref p]))) HL = some (.lst (txV c.rows)) := by
              rw [upd_ne hrH]
              exact e13 _ _ hH12
            exact ⟨.ref HL, rfl, Or.inl ⟨rfl, _, sq_of hH13⟩, HL, _, rfl, rfl, hH13, ⟨_, _, _, _, _, _, _, _, _, _, rfl⟩, ((d12.up e13).set hGr hrD).set hGH hHD⟩
        · exact s_ret (v := .bl true) ev_c fun H6 _ => k H6
end
end Bm
namespace Bm
open PySem PySem.Spec PyProof.Rows L2 Evl
/-! ### the head -/
def dd (x : PySem.Str) (st : Stmt) : He.DefD := ⟨(x, none), x, x, defArgs st, defBody st, defScope st, [], []⟩
def fn : List He.DefD := [dd "fault_of" s_fault_of, dd "need_pattern" s_need_pattern, dd "need_beats" s_need_beats, dd "need_phase" s_need_phase, dd "awake_of" s_awake_of, dd "awake" s_awake, dd "turned_by" s_turned_by, dd "turned" s_turned, dd "least_turn" s_least_turn, dd "all_of" s_all_of, dd "is_met" s_is_met, dd "first_of" s_first_of, dd "first_meet" s_first_meet, dd "worst_of" s_worst_of, dd "worst" s_worst, dd "is_met_in" s_is_met_in, dd "lacking" s_lacking, dd "fewest" s_fewest, dd "beginning" s_beginning, dd "paper" s_paper, dd "shows" s_shows, dd "partner" s_partner, dd "front" s_front, dd "is_better" s_is_better, dd "_law_dice" s_law_dice, dd "_law_off" s_law_off, dd "_law_alike" s_law_alike, dd "_law_pattern" s_law_pattern, dd "_law_asked" s_law_asked, dd "law" s_law]
def fa : List He.Fa := [.glo "fault_of", .glo "need_pattern", .glo "need_beats", .glo "need_phase", .glo "awake_of", .glo "awake", .glo "turned_by", .glo "turned", .glo "least_turn", .glo "all_of", .glo "is_met", .glo "first_of", .glo "first_meet", .glo "worst_of", .glo "worst", .glo "is_met_in", .glo "lacking", .glo "fewest", .glo "beginning", .glo "paper", .glo "shows", .glo "partner", .glo "front", .glo "is_better", .glo "_law_dice", .glo "_law_off", .glo "_law_alike", .glo "_law_pattern", .glo "_law_asked", .glo "law", .free "len", .free "range", .free "int", .free "abs", .free "max", .free "min", .free "sorted", .free "isinstance", .free "bool", .free "str", .free "tuple", .free "list", .free "all", .free "enumerate", .free "set", .int "MOST_BEATS" 12, .str "AWAKE" "1", .str "ASLEEP" "0", .int "LATER" 1, .int "MOST_WITHIN" 143]
abbrev R : PySem.W.OpenRow := PySem.W.OpenLaw.row PySem.Challenge.rw_beaconmeet_k10_asked_again
abbrev hk : PySem.W.Hook := He.hookD 4 fa fn
def ob (s : PySem.W.SharedT) : He.AlD := He.obsDG 4 fa fn (HandSHeadRun.getT s)
theorem ob_eq (s : PySem.W.SharedT) : ob s = hk.obs s.abs := He.obsDG_eq (HandSHeadRun.getT_eq s)
def loose : List PySem.Str := [("MeetError" : PySem.Str), ("BadPattern" : PySem.Str), ("BadNumber" : PySem.Str), ("NoPattern" : PySem.Str), ("MOST_BEATS" : PySem.Str), ("AWAKE" : PySem.Str), ("ASLEEP" : PySem.Str), ("fault_of" : PySem.Str), ("need_pattern" : PySem.Str), ("need_beats" : PySem.Str), ("need_phase" : PySem.Str), ("awake_of" : PySem.Str), ("awake" : PySem.Str), ("turned_by" : PySem.Str), ("turned" : PySem.Str), ("least_turn" : PySem.Str), ("all_of" : PySem.Str), ("LATER" : PySem.Str), ("is_met" : PySem.Str), ("first_of" : PySem.Str), ("first_meet" : PySem.Str), ("worst_of" : PySem.Str), ("worst" : PySem.Str), ("is_met_in" : PySem.Str), ("MOST_WITHIN" : PySem.Str), ("lacking" : PySem.Str), ("fewest" : PySem.Str), ("beginning" : PySem.Str), ("paper" : PySem.Str), ("shows" : PySem.Str), ("partner" : PySem.Str), ("front" : PySem.Str), ("is_better" : PySem.Str), ("_law_dice" : PySem.Str), ("_law_off" : PySem.Str), ("_law_alike" : PySem.Str), ("_law_pattern" : PySem.Str), ("_law_asked" : PySem.Str)]
theorem run (w : World) : HandSHeadRun.RunEq R (PySem.W.view R.prog [43]) hk ob 3000 loose w := by
  intro os
  kernel_rfl
theorem facts {P : Program} {w : World} {K : PySem.W.Frag} {h : Heap} {mg : PySem.Str → Option Value} {f : Addr} (X : K.In h) (G : h.Ns mainGlobals mg) (hfa : mg ("law" : PySem.Str) = some (.ref f)) (c : He.SaysD fa fn K) :
    ∃ fd : FuncData, (∀ (s : Shared) (v : Value), BindsTo s fd ⟨[v], []⟩ [("_law_script", v)]) ∧ ∀ base : Heap, K.In base → base.Ns mainGlobals mg → FnOk P w K mg base CX0 6 f fd ["_law_script"] (spLaw K) := by
  have D_fault_of : Def1 K mg "fault_of" s_fault_of := by
    obtain ⟨fd, F⟩ := c.def_ 0 (d := dd "fault_of" s_fault_of) rfl
    exact ⟨_, fd, F, He.glo_ok X G (c.fact 0 (f := .glo "fault_of") rfl)⟩
  have D_need_pattern : Def1 K mg "need_pattern" s_need_pattern := by
    obtain ⟨fd, F⟩ := c.def_ 1 (d := dd "need_pattern" s_need_pattern) rfl
    exact ⟨_, fd, F, He.glo_ok X G (c.fact 1 (f := .glo "need_pattern") rfl)⟩
  have D_need_beats : Def1 K mg "need_beats" s_need_beats := by
    obtain ⟨fd, F⟩ := c.def_ 2 (d := dd "need_beats" s_need_beats) rfl
    exact ⟨_, fd, F, He.glo_ok X G (c.fact 2 (f := .glo "need_beats") rfl)⟩
  have D_need_phase : Def1 K mg "need_phase" s_need_phase := by
    obtain ⟨fd, F⟩ := c.def_ 3 (d := dd "need_phase" s_need_phase) rfl
    exact ⟨_, fd, F, He.glo_ok X G (c.fact 3 (f := .glo "need_phase") rfl)⟩
  have D_awake_of : Def1 K mg "awake_of" s_awake_of := by
    obtain ⟨fd, F⟩ := c.def_ 4 (d := dd "awake_of" s_awake_of) rfl
    exact ⟨_, fd, F, He.glo_ok X G (c.fact 4 (f := .glo "awake_of") rfl)⟩
  have D_awake : Def1 K mg "awake" s_awake := by
    obtain ⟨fd, F⟩ := c.def_ 5 (d := dd "awake" s_awake) rfl
    exact ⟨_, fd, F, He.glo_ok X G (c.fact 5 (f := .glo "awake") rfl)⟩
  have D_turned_by : Def1 K mg "turned_by" s_turned_by := by
    obtain ⟨fd, F⟩ := c.def_ 6 (d := dd "turned_by" s_turned_by) rfl
    exact ⟨_, fd, F, He.glo_ok X G (c.fact 6 (f := .glo "turned_by") rfl)⟩
  have D_turned : Def1 K mg "turned" s_turned := by
    obtain ⟨fd, F⟩ := c.def_ 7 (d := dd "turned" s_turned) rfl
    exact ⟨_, fd, F, He.glo_ok X G (c.fact 7 (f := .glo "turned") rfl)⟩
  have D_least_turn : Def1 K mg "least_turn" s_least_turn := by
    obtain ⟨fd, F⟩ := c.def_ 8 (d := dd "least_turn" s_least_turn) rfl
    exact ⟨_, fd, F, He.glo_ok X G (c.fact 8 (f := .glo "least_turn") rfl)⟩
  have D_all_of : Def1 K mg "all_of" s_all_of := by
    obtain ⟨fd, F⟩ := c.def_ 9 (d := dd "all_of" s_all_of) rfl
    exact ⟨_, fd, F, He.glo_ok X G (c.fact 9 (f := .glo "all_of") rfl)⟩
  have D_is_met : Def1 K mg "is_met" s_is_met := by
    obtain ⟨fd, F⟩ := c.def_ 10 (d := dd "is_met" s_is_met) rfl
    exact ⟨_, fd, F, He.glo_ok X G (c.fact 10 (f := .glo "is_met") rfl)⟩
  have D_first_of : Def1 K mg "first_of" s_first_of := by
    obtain ⟨fd, F⟩ := c.def_ 11 (d := dd "first_of" s_first_of) rfl
    exact ⟨_, fd, F, He.glo_ok X G (c.fact 11 (f := .glo "first_of") rfl)⟩
  have D_first_meet : Def1 K mg "first_meet" s_first_meet := by
    obtain ⟨fd, F⟩ := c.def_ 12 (d := dd "first_meet" s_first_meet) rfl
    exact ⟨_, fd, F, He.glo_ok X G (c.fact 12 (f := .glo "first_meet") rfl)⟩
  have D_worst_of : Def1 K mg "worst_of" s_worst_of := by
    obtain ⟨fd, F⟩ := c.def_ 13 (d := dd "worst_of" s_worst_of) rfl
    exact ⟨_, fd, F, He.glo_ok X G (c.fact 13 (f := .glo "worst_of") rfl)⟩
  have D_worst : Def1 K mg "worst" s_worst := by
    obtain ⟨fd, F⟩ := c.def_ 14 (d := dd "worst" s_worst) rfl
    exact ⟨_, fd, F, He.glo_ok X G (c.fact 14 (f := .glo "worst") rfl)⟩
  have D_is_met_in : Def1 K mg "is_met_in" s_is_met_in := by
    obtain ⟨fd, F⟩ := c.def_ 15 (d := dd "is_met_in" s_is_met_in) rfl
    exact ⟨_, fd, F, He.glo_ok X G (c.fact 15 (f := .glo "is_met_in") rfl)⟩
  have D_lacking : Def1 K mg "lacking" s_lacking := by
    obtain ⟨fd, F⟩ := c.def_ 16 (d := dd "lacking" s_lacking) rfl
    exact ⟨_, fd, F, He.glo_ok X G (c.fact 16 (f := .glo "lacking") rfl)⟩
  have D_fewest : Def1 K mg "fewest" s_fewest := by
    obtain ⟨fd, F⟩ := c.def_ 17 (d := dd "fewest" s_fewest) rfl
    exact ⟨_, fd, F, He.glo_ok X G (c.fact 17 (f := .glo "fewest") rfl)⟩
  have D_beginning : Def1 K mg "beginning" s_beginning := by
    obtain ⟨fd, F⟩ := c.def_ 18 (d := dd "beginning" s_beginning) rfl
    exact ⟨_, fd, F, He.glo_ok X G (c.fact 18 (f := .glo "beginning") rfl)⟩
  have D_paper : Def1 K mg "paper" s_paper := by
    obtain ⟨fd, F⟩ := c.def_ 19 (d := dd "paper" s_paper) rfl
    exact ⟨_, fd, F, He.glo_ok X G (c.fact 19 (f := .glo "paper") rfl)⟩
  have D_shows : Def1 K mg "shows" s_shows := by
    obtain ⟨fd, F⟩ := c.def_ 20 (d := dd "shows" s_shows) rfl
    exact ⟨_, fd, F, He.glo_ok X G (c.fact 20 (f := .glo "shows") rfl)⟩
  have D_partner : Def1 K mg "partner" s_partner := by
    obtain ⟨fd, F⟩ := c.def_ 21 (d := dd "partner" s_partner) rfl
    exact ⟨_, fd, F, He.glo_ok X G (c.fact 21 (f := .glo "partner") rfl)⟩
  have D_front : Def1 K mg "front" s_front := by
    obtain ⟨fd, F⟩ := c.def_ 22 (d := dd "front" s_front) rfl
    exact ⟨_, fd, F, He.glo_ok X G (c.fact 22 (f := .glo "front") rfl)⟩
  have D_is_better : Def1 K mg "is_better" s_is_better := by
    obtain ⟨fd, F⟩ := c.def_ 23 (d := dd "is_better" s_is_better) rfl
    exact ⟨_, fd, F, He.glo_ok X G (c.fact 23 (f := .glo "is_better") rfl)⟩
  have D_law_dice : Def1 K mg "_law_dice" s_law_dice := by
    obtain ⟨fd, F⟩ := c.def_ 24 (d := dd "_law_dice" s_law_dice) rfl
    exact ⟨_, fd, F, He.glo_ok X G (c.fact 24 (f := .glo "_law_dice") rfl)⟩
  have D_law_off : Def1 K mg "_law_off" s_law_off := by
    obtain ⟨fd, F⟩ := c.def_ 25 (d := dd "_law_off" s_law_off) rfl
    exact ⟨_, fd, F, He.glo_ok X G (c.fact 25 (f := .glo "_law_off") rfl)⟩
  have D_law_alike : Def1 K mg "_law_alike" s_law_alike := by
    obtain ⟨fd, F⟩ := c.def_ 26 (d := dd "_law_alike" s_law_alike) rfl
    exact ⟨_, fd, F, He.glo_ok X G (c.fact 26 (f := .glo "_law_alike") rfl)⟩
  have D_law_pattern : Def1 K mg "_law_pattern" s_law_pattern := by
    obtain ⟨fd, F⟩ := c.def_ 27 (d := dd "_law_pattern" s_law_pattern) rfl
    exact ⟨_, fd, F, He.glo_ok X G (c.fact 27 (f := .glo "_law_pattern") rfl)⟩
  have D_law_asked : Def1 K mg "_law_asked" s_law_asked := by
    obtain ⟨fd, F⟩ := c.def_ 28 (d := dd "_law_asked" s_law_asked) rfl
    exact ⟨_, fd, F, He.glo_ok X G (c.fact 28 (f := .glo "_law_asked") rfl)⟩
  have D_law : Def1 K mg "law" s_law := by
    obtain ⟨fd, F⟩ := c.def_ 29 (d := dd "law" s_law) rfl
    exact ⟨_, fd, F, He.glo_ok X G (c.fact 29 (f := .glo "law") rfl)⟩
  have B : Bl mg := ⟨He.free_ok X G (c.fact 30 (f := .free "len") rfl), He.free_ok X G (c.fact 31 (f := .free "range") rfl), He.free_ok X G (c.fact 32 (f := .free "int") rfl), He.free_ok X G (c.fact 33 (f := .free "abs") rfl), He.free_ok X G (c.fact 34 (f := .free "max") rfl), He.free_ok X G (c.fact 35 (f := .free "min") rfl), He.free_ok X G (c.fact 36 (f := .free "sorted") rfl), He.free_ok X G (c.fact 37 (f := .free "isinstance") rfl), He.free_ok X G (c.fact 38 (f := .free "bool") rfl), He.free_ok X G (c.fact 39 (f := .free "str") rfl), He.free_ok X G (c.fact 40 (f := .free "tuple") rfl), He.free_ok X G (c.fact 41 (f := .free "list") rfl), He.free_ok X G (c.fact 42 (f := .free "all") rfl), He.free_ok X G (c.fact 43 (f := .free "enumerate") rfl), He.free_ok X G (c.fact 44 (f := .free "set") rfl)⟩
  have g_MOST_BEATS := He.int_ok X G (c.fact 45 (f := .int "MOST_BEATS" 12) rfl)
  have g_AWAKE := He.str_ok X G (c.fact 46 (f := .str "AWAKE" "1") rfl)
  have g_ASLEEP := He.str_ok X G (c.fact 47 (f := .str "ASLEEP" "0") rfl)
  have g_LATER := He.int_ok X G (c.fact 48 (f := .int "LATER" 1) rfl)
  have g_MOST_WITHIN := He.int_ok X G (c.fact 49 (f := .int "MOST_WITHIN" 143) rfl)
  obtain ⟨fd, F⟩ := c.def_ 29 (d := dd "law" s_law) rfl
  have b := FunD.bindsA (ps := ["_law_script"]) F fun _ _ _ _ _ _ us hl => match us, hl with | [_], _ => rfl
  have lk : ∃ oc od osl, K.lookup (He.fAd K (dd "law" s_law).at_) = some ⟨oc, od, .func fd, osl⟩ := by
    obtain ⟨oc, od, _, _, _, _, _, _, _, osl, _, lk, _⟩ := F.ex
    exact ⟨oc, od, osl, lk⟩
  have e := hfa.symm.trans (He.glo_ok X G (c.fact 29 (f := .glo "law") rfl))
  cases e
  refine ⟨fd, fun s v => b s [v] rfl, fun base _ _ => ?_⟩
  have c_fault_of := ok_fault_of (P := P) (w := w) (base := base) D_fault_of B g_MOST_BEATS g_AWAKE g_ASLEEP
  have c_need_pattern := ok_need_pattern D_need_pattern c_fault_of
  have c_need_phase := ok_need_phase (P := P) (w := w) (base := base) D_need_phase B
  have c_need_beats := ok_need_beats (P := P) (w := w) (base := base) D_need_beats B g_MOST_BEATS
  have c_awake_of := ok_awake_of (P := P) (w := w) (base := base) D_awake_of B g_AWAKE
  have c_awake := ok_awake D_awake B c_need_pattern c_awake_of
  have c_turned_by := ok_turned_by (P := P) (w := w) (base := base) D_turned_by
  have c_turned := ok_turned D_turned c_need_pattern c_need_phase c_turned_by
  have c_least_turn := ok_least_turn D_least_turn B c_need_pattern c_turned_by
  have c_is_met := ok_is_met (P := P) (w := w) (base := base) D_is_met B g_AWAKE g_LATER
  have c_first_of := ok_first_of D_first_of B c_is_met
  have c_first_meet := ok_first_meet D_first_meet c_need_pattern c_need_phase c_first_of
  have c_worst_of := ok_worst_of D_worst_of B c_first_of
  have c_worst := ok_worst D_worst c_need_pattern c_worst_of
  have c_all_of := ok_all_of (P := P) (w := w) (base := base) D_all_of B g_AWAKE g_ASLEEP
  have c_lacking := ok_lacking D_lacking B c_awake_of
  have c_fewest := ok_fewest D_fewest B c_need_beats c_all_of c_lacking
  have c_beginning := ok_beginning D_beginning B g_AWAKE c_all_of
  have c_paper := ok_paper D_paper B c_fewest c_beginning c_lacking
  have c_shows := ok_shows D_shows B c_need_beats c_beginning c_awake_of
  have c_is_better := ok_is_better (P := P) (w := w) (base := base) D_is_better
  have c_front := ok_front D_front B c_fault_of c_awake_of c_worst_of c_is_better
  have c_is_met_in := ok_is_met_in D_is_met_in B c_first_of
  have c_partner := ok_partner D_partner B g_MOST_WITHIN c_need_pattern c_need_beats c_all_of c_is_met_in
  have c_law_dice := ok_law_dice (P := P) (w := w) (base := base) D_law_dice B
  have c_law_off := ok_law_off (P := P) (w := w) (base := base) D_law_off B
  have c_law_alike := ok_law_alike (P := P) (w := w) (base := base) D_law_alike B 2
  have c_law_pattern := ok_law_pattern D_law_pattern B c_law_off
  have c_law_asked := ok_law_asked D_law_asked B c_awake c_turned c_least_turn c_first_meet c_worst c_fewest c_paper c_front c_partner c_shows
  have c_law := ok_law D_law B c_law_dice c_law_off c_law_pattern c_law_alike c_law_asked
  exact c_law.at_ hfa lk
end Bm
open PySem PySem.W PySem.Calls PyProof.Rows
set_option maxRecDepth 100000 in
set_option maxHeartbeats 0 in
theorem PySem.Challenge.cw_beaconmeet_k10_asked_again_holds : PySem.Challenge.rw_beaconmeet_k10_asked_again.Holds := by
  w_on; o_law
  refine HandSHeadRun.head_any (r := OpenLaw.row PySem.Challenge.rw_beaconmeet_k10_asked_again) (q := view (OpenLaw.row PySem.Challenge.rw_beaconmeet_k10_asked_again).prog [43]) (H := Bm.hk) (ob := Bm.ob) (M := 3000) (loose := Bm.loose) (d := HandSHeadRun.topDef (OpenLaw.row PySem.Challenge.rw_beaconmeet_k10_asked_again).prog 43) (kwd := []) Bm.ob_eq
    (by kernel_rfl) (fun s => by kernel_rfl) Bm.run (by kernel_rfl) (by kernel_rfl) (by kernel_rfl) (by rfl) (by first | assumption | decide +kernel) (by decide +kernel) ⟨rfl, rfl, rfl, rfl, rfl, by decide +kernel⟩ ?hw ?hc
  case hw => w_witness2
  case hc =>
    refine L2.walk_ofE (l := PySem.Challenge.rw_beaconmeet_k10_asked_again) (n := 63) (k := 6) (x := "_law_script") (CX := L2.CX0) rfl (by decide) (by kernel_rfl) ⟨rfl, by decide, by decide⟩ ?F (fun _ _ _ _ z => z)
    intro w mg fa h Y G hmg0
    obtain ⟨K, KX, c⟩ := Y
    have hmg : mg ("law" : PySem.Str) = some (.ref fa) := by
      have e : (HandSHeadRun.topDef (OpenLaw.row PySem.Challenge.rw_beaconmeet_k10_asked_again).prog 43).name = ("law" : PySem.Str) := by kernel_rfl
      rw [← e]
      exact hmg0
    obtain ⟨fd, hb, hF⟩ := Bm.facts (P := (PySem.Challenge.rw_beaconmeet_k10_asked_again).prog) (w := w) KX G hmg c
    exact ⟨K, fd, Bm.spLaw K, KX, hb, fun H a ns hl hO hS => Bm.law_in hl hO hS, hF⟩
