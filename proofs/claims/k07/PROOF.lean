import PyProof.Rows.All
import Wide.All
import OpenK.AllK
import Wide.FinOn
import PyProof.EqAt
import PyProof.EqKinds
import PyProof.TupleCall
import PyProof.Draws
import KE.KStateDown
import KE.GoesMore
import HandS.ForMost
import HandS.Evl
import HandS.Walk
import HandS.Defaults
import HandS.IsInst
import HandS.Head0
import HandS.Head1
import HandS.Head2
import HandS.HeadEnd
import HandS.HeadHook1
import HandS.HeadHook2
import KE.DatumOrd
import KE.SortData
import PyProof.Rows.RowBridgeK
import PyProof.Rows.RegReprOcc
import HandS.Strs
import HandS.SetFor
import HandS.Conv
import HandS.Style
import PyProof.Rows.StrRev
import PySem.Challenge.RW_beaconmeet_k07_whole_papers
set_option Elab.async false
set_option linter.all false
set_option maxRecDepth 100000
set_option maxHeartbeats 4000000
namespace Bm
/-! ### patterns as lists of truth values -/
/-- awake in beat i, going round -/
def aw (p : List Bool) (i : Nat) : Bool := p.getD (i % p.length) false
/-- the numbers of the beats awake -/
def ones (p : List Bool) : List Nat := (List.range p.length).filter fun i => p.getD i false
/-- a pattern: one to m beats, one awake at least -/
structure Pat (m : Nat) (p : List Bool) : Prop where
  lo : 1 ≤ p.length
  hi : p.length ≤ m
  has : true ∈ p
def met (p q : List Bool) (l : Bool) (x y : Nat) : Bool := aw q y && (aw p x || (l && aw p (x + 1)))
/-- the first moment -/
def first (p q : List Bool) (l : Bool) (a b : Nat) : Option Nat := (List.range (p.length * q.length)).find? fun m => met p q l (a + m) (b + m)

theorem mem_ones {p : List Bool} {i : Nat} : i ∈ ones p ↔ i < p.length ∧ p.getD i false = true := by
  unfold ones
  rw [List.mem_filter, List.mem_range]
theorem aw_iff {p : List Bool} (h : 0 < p.length) (i : Nat) : aw p i = decide (i % p.length ∈ ones p) := by
  have hl : i % p.length < p.length := Nat.mod_lt _ h
  unfold aw
  cases e : p.getD (i % p.length) false with
  | true => rw [decide_eq_true (mem_ones.mpr ⟨hl, e⟩)]
  | false => rw [decide_eq_false]; intro z; rw [(mem_ones.mp z).2] at e; cases e

/-! ### the first of a range -/
theorem find_range_some {n m : Nat} {f : Nat → Bool} (h : (List.range n).find? f = some m) : m < n ∧ f m = true ∧ ∀ i, i < m → f i = false := by
  rw [List.find?_range_eq_some] at h
  obtain ⟨h1, h2, h3⟩ := h
  refine ⟨List.mem_range.mp h2, h1, fun i hi => ?_⟩
  have := h3 i hi
  simpa using this
theorem find_range_none {n : Nat} {f : Nat → Bool} (h : (List.range n).find? f = none) : ∀ i, i < n → f i = false := by
  intro i hi
  have := List.find?_eq_none.mp h i (List.mem_range.mpr hi)
  simpa using this
theorem find_range_is {n m : Nat} {f : Nat → Bool} (h1 : m < n) (h2 : f m = true) (h3 : ∀ i, i < m → f i = false) : (List.range n).find? f = some m := by
  rw [List.find?_range_eq_some]
  exact ⟨h2, List.mem_range.mpr h1, fun i hi => by simp [h3 i hi]⟩
theorem find_range_no {n : Nat} {f : Nat → Bool} (h : ∀ i, i < n → f i = false) : (List.range n).find? f = none := by
  rw [List.find?_eq_none]
  intro i hi
  simp [h i (List.mem_range.mp hi)]
end Bm
namespace Bm
/-! ### what is no pattern -/
def badAt (c i : Nat) : Bool := decide (12 ≤ i) || !(c == 49 || c == 48)
def fault (cs : List Nat) : Option Nat := match (List.range cs.length).find? fun i => badAt (cs.getD i 0) i with
  | some i => some i
  | none => if 49 ∈ cs then none else some cs.length
end Bm
namespace Bm
/-! ### the latest -/
abbrev Row := Option Nat × Nat × Nat
def rowA (p q : List Bool) (l : Bool) (a k : Nat) : List Row := (List.range k).map fun b => (first p q l a b, a, b)
def upto (p q : List Bool) (l : Bool) (a : Nat) : List Row := (List.range a).flatMap fun a' => rowA p q l a' q.length
def rows (p q : List Bool) (l : Bool) : List Row := upto p q l p.length
def valR (r : Row) : Nat := r.1.getD 0
def stp (best : Option Row) (r : Row) : Option Row := match best with
  | none => some r
  | some b => if valR b < valR r then some r else some b
/-- all meet -/
def allMeet (rs : List Row) : Prop := ∀ r ∈ rs, r.1 ≠ none
def worst (p q : List Bool) (l : Bool) : Row := match (rows p q l).find? (fun r => r.1.isNone) with
  | some r => r
  | none => ((rows p q l).foldl stp none).getD (none, 0, 0)
theorem rowA_succ (p q : List Bool) (l : Bool) (a b : Nat) : rowA p q l a (b + 1) = rowA p q l a b ++ [(first p q l a b, a, b)] := by
  unfold rowA
  rw [List.range_succ, List.map_append]
  rfl
theorem upto_succ (p q : List Bool) (l : Bool) (a : Nat) : upto p q l (a + 1) = upto p q l a ++ rowA p q l a q.length := by
  unfold upto
  rw [List.range_succ, List.flatMap_append]
  simp
theorem upto_pre (p q : List Bool) (l : Bool) {a : Nat} (h : a < p.length) : ∃ s, rows p q l = upto p q l a ++ (rowA p q l a q.length ++ s) := by
  have key : ∀ n, a < n → ∃ s, upto p q l n = upto p q l a ++ (rowA p q l a q.length ++ s) := by
    intro n hn
    induction n with
    | zero => omega
    | succ n ih =>
      rw [upto_succ]
      by_cases e : a = n
      · subst e
        exact ⟨[], by simp⟩
      · obtain ⟨s, hs⟩ := ih (by omega)
        exact ⟨s ++ rowA p q l n q.length, by rw [hs]; simp⟩
  exact key p.length h
theorem rowA_pre (p q : List Bool) (l : Bool) (a : Nat) {b k : Nat} (h : b < k) : ∃ s, rowA p q l a k = rowA p q l a b ++ (first p q l a b, a, b) :: s := by
  induction k with
  | zero => omega
  | succ k ih =>
    rw [rowA_succ]
    by_cases e : b = k
    · subst e
      exact ⟨[], rfl⟩
    · obtain ⟨s, hs⟩ := ih (by omega)
      exact ⟨s ++ [(first p q l a k, a, k)], by rw [hs]; simp⟩
theorem find_none_of {pre : List Row} (h : allMeet pre) : pre.find? (fun r => r.1.isNone) = none := by
  rw [List.find?_eq_none]
  intro r hr
  have := h r hr
  cases e : r.1 with
  | none => exact absurd e this
  | some m => simp
/-- the first pair by which they never meet -/
theorem worst_never {p q : List Bool} {l : Bool} {a b : Nat} (ha : a < p.length) (hb : b < q.length) (h1 : allMeet (upto p q l a)) (h2 : allMeet (rowA p q l a b)) (h : first p q l a b = none) : worst p q l = (none, a, b) := by
  obtain ⟨s, hs⟩ := upto_pre p q l ha
  obtain ⟨s2, hs2⟩ := rowA_pre p q l a hb
  have e : (rows p q l).find? (fun r => r.1.isNone) = some (none, a, b) := by
    rw [hs, hs2, List.find?_append, find_none_of h1, List.find?_append, List.find?_append, find_none_of h2, h]
    rfl
  unfold worst
  rw [e]
theorem worst_all {p q : List Bool} {l : Bool} (h : allMeet (rows p q l)) : worst p q l = ((rows p q l).foldl stp none).getD (none, 0, 0) := by
  unfold worst
  rw [find_none_of h]
theorem mem_rows {p q : List Bool} {l : Bool} {r : Row} : r ∈ rows p q l ↔ ∃ a b, a < p.length ∧ b < q.length ∧ r = (first p q l a b, a, b) := by
  unfold rows upto rowA
  rw [List.mem_flatMap]
  constructor
  · rintro ⟨a, ha, h⟩
    obtain ⟨b, hb, e⟩ := List.mem_map.mp h
    exact ⟨a, b, List.mem_range.mp ha, List.mem_range.mp hb, e.symm⟩
  · rintro ⟨a, b, ha, hb, e⟩
    exact ⟨a, List.mem_range.mpr ha, List.mem_map.mpr ⟨b, List.mem_range.mpr hb, e.symm⟩⟩
/-- the fold from a first one on -/
def bestFrom (b : Row) : List Row → Row
  | [] => b
  | r :: rs => bestFrom (if valR b < valR r then r else b) rs
theorem foldl_best : ∀ (rs : List Row) (b : Row), rs.foldl stp (some b) = some (bestFrom b rs)
  | [], _ => rfl
  | r :: rs, b => by
    rw [List.foldl_cons]
    unfold bestFrom
    show rs.foldl stp (if valR b < valR r then some r else some b) = _
    split
    · exact foldl_best rs r
    · exact foldl_best rs b
theorem head_best (M : Nat) : ∀ (rs : List Row) (b : Row), (∀ r ∈ b :: rs, valR r ≤ M) → (∃ r ∈ b :: rs, valR r = M) → ((b :: rs).filter fun r => decide (valR r = M)).head? = some (bestFrom b rs)
  | [], b, _, h => by
    obtain ⟨r, hr, e⟩ := h
    have : r = b := by simpa using hr
    subst this
    simp [e, bestFrom]
  | r :: rs, b, hle, h => by
    unfold bestFrom
    have hb := hle b (by simp)
    have hr := hle r (by simp)
    by_cases c : valR b < valR r
    · rw [if_pos c]
      have nb : ¬ valR b = M := by omega
      rw [List.filter_cons, if_neg (by simpa using nb)]
      refine head_best M rs r (fun x hx => hle x (List.mem_cons_of_mem _ hx)) ?_
      obtain ⟨x, hx, e⟩ := h
      rcases List.mem_cons.mp hx with rfl | hx
      · exact absurd e nb
      · exact ⟨x, hx, e⟩
    · rw [if_neg c]
      have ih := head_best M rs b (fun x hx => hle x (by
        rcases List.mem_cons.mp hx with rfl | hx
        · simp
        · simp [hx])) (by
        obtain ⟨x, hx, e⟩ := h
        rcases List.mem_cons.mp hx with rfl | hx
        · exact ⟨x, by simp, e⟩
        · rcases List.mem_cons.mp hx with rfl | hx
          · exact ⟨b, by simp, by omega⟩
          · exact ⟨x, by simp [hx], e⟩)
      rw [← ih]
      by_cases nb : valR b = M
      · rw [List.filter_cons (x := b) (xs := r :: rs), if_pos (by simpa using nb), List.filter_cons (x := b) (xs := rs), if_pos (by simpa using nb)]
        rfl
      · rw [List.filter_cons (x := b) (xs := r :: rs), if_neg (by simpa using nb), List.filter_cons (x := r), if_neg (by simpa using (show ¬ valR r = M by omega)), List.filter_cons (x := b) (xs := rs), if_neg (by simpa using nb)]
theorem worst_head {p q : List Bool} {l : Bool} {M : Nat} (h : allMeet (rows p q l)) (hle : ∀ r ∈ rows p q l, valR r ≤ M) (hex : ∃ r ∈ rows p q l, valR r = M) : ((rows p q l).filter fun r => decide (valR r = M)).head? = some (worst p q l) := by
  rw [worst_all h]
  cases e : rows p q l with
  | nil =>
    rw [e] at hex
    obtain ⟨r, hr, _⟩ := hex
    cases hr
  | cons b rs =>
    rw [e] at hle hex
    rw [head_best M rs b hle hex, List.foldl_cons]
    show _ = some ((rs.foldl stp (some b)).getD (none, 0, 0))
    rw [foldl_best]
    rfl
/-- what is known of worst -/
theorem worst_mem {p q : List Bool} {l : Bool} (hp : 0 < p.length) (hq : 0 < q.length) : worst p q l ∈ rows p q l := by
  unfold worst
  cases e : (rows p q l).find? (fun r => r.1.isNone) with
  | some r => exact List.mem_of_find?_eq_some e
  | none =>
    show ((rows p q l).foldl stp none).getD (none, 0, 0) ∈ rows p q l
    cases e2 : rows p q l with
    | nil =>
      have : ((first p q l 0 0, 0, 0) : Row) ∈ rows p q l := mem_rows.mpr ⟨0, 0, hp, hq, rfl⟩
      rw [e2] at this
      cases this
    | cons b rs =>
      rw [List.foldl_cons]
      show (rs.foldl stp (some b)).getD (none, 0, 0) ∈ b :: rs
      rw [foldl_best]
      show bestFrom b rs ∈ b :: rs
      have key : ∀ (rs : List Row) (b : Row), bestFrom b rs ∈ b :: rs := by
        intro rs
        induction rs with
        | nil => intro b; simp [bestFrom]
        | cons r rs ih =>
          intro b
          unfold bestFrom
          have := ih (if valR b < valR r then r else b)
          rcases List.mem_cons.mp this with h | h
          · rw [h]
            split <;> simp
          · simp [h]
      exact key rs b
theorem worst_none_iff {p q : List Bool} {l : Bool} (hp : 0 < p.length) (hq : 0 < q.length) : (worst p q l).1 = none ↔ ∃ a b, a < p.length ∧ b < q.length ∧ first p q l a b = none := by
  constructor
  · intro h
    obtain ⟨a, b, ha, hb, e⟩ := mem_rows.mp (worst_mem (l := l) hp hq)
    rw [e] at h
    exact ⟨a, b, ha, hb, h⟩
  · rintro ⟨a, b, ha, hb, h⟩
    unfold worst
    cases e : (rows p q l).find? (fun r => r.1.isNone) with
    | some r =>
      have := List.find?_some e
      show r.1 = none
      simpa using this
    | none =>
      have := List.find?_eq_none.mp e (none, a, b) (mem_rows.mpr ⟨a, b, ha, hb, by rw [h]⟩)
      simp at this
/-- all meet no later than it -/
theorem worst_le {p q : List Bool} {l : Bool} {m : Nat} (hp : 0 < p.length) (hq : 0 < q.length) (h : (worst p q l).1 = some m) {a b : Nat} (ha : a < p.length) (hb : b < q.length) : ∃ k, first p q l a b = some k ∧ k ≤ m := by
  have hall : allMeet (rows p q l) := by
    intro r hr e
    obtain ⟨a, b, ha, hb, rfl⟩ := mem_rows.mp hr
    rw [(worst_none_iff hp hq).mpr ⟨a, b, ha, hb, e⟩] at h
    cases h
  cases e : first p q l a b with
  | none => exact absurd e (hall _ (mem_rows.mpr ⟨a, b, ha, hb, rfl⟩))
  | some k =>
    refine ⟨k, rfl, ?_⟩
    rw [worst_all hall] at h
    have hm : ((first p q l a b, a, b) : Row) ∈ rows p q l := mem_rows.mpr ⟨a, b, ha, hb, rfl⟩
    cases e2 : rows p q l with
    | nil => rw [e2] at hm; cases hm
    | cons r rs =>
      rw [e2] at h hm
      rw [List.foldl_cons] at h
      have h : ((rs.foldl stp (some r)).getD (none, 0, 0)).1 = some m := h
      rw [foldl_best] at h
      have h : (bestFrom r rs).1 = some m := h
      have key : ∀ (rs : List Row) (b : Row), ∀ x ∈ b :: rs, valR x ≤ valR (bestFrom b rs) := by
        intro rs
        induction rs with
        | nil => intro b x hx; have : x = b := by simpa using hx
                 subst this; exact Nat.le_refl _
        | cons r rs ih =>
          intro b x hx
          unfold bestFrom
          have h0 := ih (if valR b < valR r then r else b) _ (List.mem_cons_self ..)
          rcases List.mem_cons.mp hx with rfl | hx
          · refine Nat.le_trans ?_ h0
            split <;> omega
          · rcases List.mem_cons.mp hx with rfl | hx
            · refine Nat.le_trans ?_ h0
              split <;> omega
            · exact ih _ x (by simp [hx])
      have := key rs r _ hm
      unfold valR at this
      rw [h, e] at this
      exact this
theorem worst_at {p q : List Bool} {l : Bool} (hp : 0 < p.length) (hq : 0 < q.length) : ∃ a b, a < p.length ∧ b < q.length ∧ worst p q l = (first p q l a b, a, b) := mem_rows.mp (worst_mem hp hq)
end Bm
namespace Bm
open PySem PySem.Spec PyProof.Rows L2 Evl
/-! ### defs by name -/
structure Cal (P : Program) (w : World) (K : PySem.W.Frag) (mg : PySem.Str → Option Value) (base : Heap) (k : Nat) (x : PySem.Str) (ps : List PySem.Str) (sp : Sp) : Prop where
  ex : ∃ f fd, FnOk P w K mg base CX0 k f fd ps sp ∧ mg x = some (.ref f) ∧ PySem.W.keepIn K (.ref f) = true ∧ Binds K fd ps [] ∧ ∃ oc od osl, K.lookup f = some ⟨oc, od, .func fd, osl⟩
theorem pe_callC {X : Cx} {k j : Nat} {x : PySem.Str} {ps : List PySem.Str} {sp : Sp} {e : Expr} {es : List Expr} {t : TA} {p pos : Pos} (C : Cal X.prog X.w X.K X.mg X.base k x ps sp) (hr : Room j X.A) (hk : k ≤ j) (ha : PA X (e :: es) t) (hg : Gl X x := by rfl)
    (hdb : (x == ("__debug__" : PySem.Str)) = false := by decide) (he : starEach (e :: es) X.env = (false, eval e X.env) :: starEach es X.env := by rfl) (hpl : (backTo pos (starEach es X.env)).any (·.1) = false := by rfl) :
    PE X (.Call (.Name x p) (e :: es) [] pos) (tCall sp [] E0 t) := by
  obtain ⟨f, fd, F, hm, kp, b, _⟩ := C.ex
  exact pe_call F (hr.mono hk) hg hm kp b .nil pass0 ha hdb he hpl
/-- a def of the text as it stands behind the top -/
structure Def1 (K : PySem.W.Frag) (mg : PySem.Str → Option Value) (x : PySem.Str) (st : Stmt) : Prop where
  ex : ∃ f fd, FunD K x x (defArgs st) (defBody st) (defScope st) [] [] f fd ∧ mg x = some (.ref f)
section
variable {P : Program} {w : World} {K : PySem.W.Frag} {mg : PySem.Str → Option Value} {base : Heap}
theorem Def1.cal {x : PySem.Str} {st : Stmt} {N ps : List PySem.Str} {k : Nat} {sp : Sp} (D : Def1 K mg x st) (S : FnScope N ps (defScope st))
    (hb : ∀ (kV doc pm : Value) (an : Option Addr) (cdv ct : Value) (us : List Value), us.length = ps.length → bindArgs (PySem.W.fnOf x x (defArgs st) (defBody st) (defScope st) .none kV doc pm an cdv ct) ⟨us, []⟩ = pure (ps.zip us))
    (len : ∀ vs H Q E, sp vs H Q E → vs.length = ps.length)
    (hbody : ∀ (f : Addr) (cdv : Value) (A : Around) (outer : List Env) (s : Shared) (H : Hp) (vs : List V) (Q : VK) (E : XK), Room k (A.deeper (envOfC x (defScope st) s.heap.objs.size f cdv)) → sp vs H Q E →
      ∃ t, PSs (cxOf CX0 P w K mg base N x (defScope st) f cdv A outer s H E).nox (defBody st) t ∧ t { nx := fun _ H' => Q .non H', rt := Q } (start N vs) H) : Cal P w K mg base (k + 1) x ps sp := by
  obtain ⟨f, fd, F, hm⟩ := D.ex
  refine ⟨f, fd, F.ok S len fun cdv A outer s H vs Q E hr h => ?_, hm, F.kp, F.bindsN hb, ?_⟩
  rotate_left
  · obtain ⟨oc, od, _, _, _, _, _, _, _, osl, _, lk, _⟩ := F.ex
    exact ⟨oc, od, osl, lk⟩
  obtain ⟨t, h1, h2⟩ := hbody f cdv A outer s H vs Q E hr h
  exact ⟨t, PSs.nox h1, h2⟩
theorem Cal.mono {x : PySem.Str} {ps : List PySem.Str} {j k : Nat} {sp : Sp} (C : Cal P w K mg base j x ps sp) (h : j ≤ k) : Cal P w K mg base k x ps sp := by
  obtain ⟨f, fd, F, r⟩ := C.ex
  exact ⟨f, fd, F.mono h, r⟩
theorem Cal.imp {x : PySem.Str} {ps : List PySem.Str} {k : Nat} {sp sp' : Sp} (C : Cal P w K mg base k x ps sp) (h : ∀ vs H Q E, sp' vs H Q E → sp vs H Q E) : Cal P w K mg base k x ps sp' := by
  obtain ⟨f, fd, F, r⟩ := C.ex
  exact ⟨f, fd, F.imp h, r⟩
end
/-- the promise of a def whose object is known -/
theorem Cal.at_ {P : Program} {w : World} {K : PySem.W.Frag} {mg : PySem.Str → Option Value} {base : Heap} {x : PySem.Str} {ps : List PySem.Str} {k : Nat} {sp : Sp} {f : Addr} {fd : FuncData} (C : Cal P w K mg base k x ps sp) (hm : mg x = some (.ref f)) (hl : ∃ oc od osl, K.lookup f = some ⟨oc, od, .func fd, osl⟩) :
    FnOk P w K mg base CX0 k f fd ps sp := by
  obtain ⟨f', fd', F, hm', _, _, oc, od, osl, hl'⟩ := C.ex
  obtain ⟨oc2, od2, osl2, hl⟩ := hl
  have e : f' = f := by
    rw [hm'] at hm
    exact Value.ref.inj (Option.some.inj hm)
  subst e
  rw [hl'] at hl
  have e2 := Option.some.inj hl
  injection e2 with _ _ e3 _
  injection e3 with e4
  subst e4
  exact F
/-- the names that are still the built-in ones -/
structure Bl (mg : PySem.Str → Option Value) : Prop where
  len : mg "len" = none
  range : mg "range" = none
  int : mg "int" = none
  abs : mg "abs" = none
  max : mg "max" = none
  min : mg "min" = none
  sorted : mg "sorted" = none
  isinstance : mg "isinstance" = none
  bool : mg "bool" = none
  str : mg "str" = none
  tuple : mg "tuple" = none
  list : mg "list" = none
  all : mg "all" = none
  enumerate : mg "enumerate" = none
  set : mg "set" = none
/-! ### constants of the module -/
section
variable {X : Cx}
theorem pe_gS {x z : PySem.Str} {pos : Pos} (h : ∃ t, X.mg x = some (.str z t)) (hg : Gl X x := by rfl) (hd : (x == ("__debug__" : PySem.Str)) = false := by decide) : PE X (.Name x pos) (tC (.str z)) := by
  obtain ⟨t, h⟩ := h
  exact pe_glob hg h ⟨t, rfl⟩ hd
theorem pe_gI {x : PySem.Str} {z : Int} {pos : Pos} (h : ∃ t, X.mg x = some (.int z t)) (hg : Gl X x := by rfl) (hd : (x == ("__debug__" : PySem.Str)) = false := by decide) : PE X (.Name x pos) (tC (.int z)) := by
  obtain ⟨t, h⟩ := h
  exact pe_glob hg h ⟨t, rfl⟩ hd
end
/-! ### enumerate(a text) -/
/-- the signs of x, each in a new pair -/
def ItE (x : PySem.Str) : It :=
  ⟨fun i _ => i < x.cps.size, fun i H v H' => ∃ T c, v = .ref T ∧ H T = none ∧ H' = upd H T (.tup [.int (i : Nat), .str ⟨#[c]⟩]) ∧ x.cps[i]? = some c, fun i _ => i = x.cps.size⟩
theorem turn_enumS {P : Program} {w : World} {K : PySem.W.Frag} {elts : List Expr} {kk : Nat} {tpos : Pos} (e it : Addr) (x : PySem.Str) (t : Tok) :
    Turn P w K (.Tuple elts kk tpos) (ItE x) [e, it] e (fun i h => (∃ old, IsEnum h e it ((i : Nat) : Int) old) ∧ h.IsStrIter it (strIterType x) x t i ∧ e ≠ it) where
  mem := by simp
  obj := fun i h st b hb => by
    obtain ⟨⟨old, he⟩, ⟨o, ho, hc, hd⟩, _⟩ := st
    have e' : b = e ∨ b = it := by simpa using hb
    rcases e' with z | z
    · rw [z]; exact ⟨_, he, fun v q => nomatch q⟩
    · rw [z]; exact ⟨o, ho, fun v q => by rw [hd] at q; cases q⟩
  keep := fun i h h' st k => let ⟨⟨old, he⟩, ⟨o, ho, r⟩, hne⟩ := st; ⟨⟨old, k e (by simp) _ he⟩, ⟨o, k it (by simp) o ho, r⟩, hne⟩
  item := by
    intro X hP hw hK hc i pins s σ H E I hf st hg
    subst hP hw hK
    obtain ⟨⟨old, he⟩, hit, hne⟩ := st
    have hel : e < s.heap.objs.size := Heap.lt_size he
    have hil : it < s.heap.objs.size := by obtain ⟨_, q, _⟩ := hit; exact Heap.lt_size q
    have hd : X.A.in1.handled = none := I.ok.hd hc
    have D := Draws.text (prog := X.prog) (w := X.w) (A := X.A.in1) hd it x t
    refine wpAny_pyNext_enum_itemD D he hit hg hne (by simpa using hne) fun u h' tk hu ho hit' hT hsz hk => ?_
    obtain ⟨c, t', hcx, rfl⟩ := hu
    refine ⟨_, rfl, wpAny_letOwnedTupleGo_enum (s := { s with heap := h', toks := tk + 1 }) ho fun h'' he' sb => ?_⟩
    have hT2 : h''.get? s.heap.objs.size = some { cls := .type "tuple", data := .seq #[.int i tk, .str ⟨#[c]⟩ t'] } := (sb.2 _ (Nat.ne_of_gt hel)).trans hT
    have new : ObjOk X.prog X.w (upd H s.heap.objs.size (.tup [.int (i : Nat), .str ⟨#[c]⟩])) h'' s.heap.objs.size (.tup [.int (i : Nat), .str ⟨#[c]⟩]) :=
      ⟨by show 2 ≤ sizeLine; decide, [.int i tk, .str ⟨#[c]⟩ t'], .cons ⟨_, rfl⟩ (.cons ⟨_, rfl⟩ .nil), ⟨_, hT2, rfl, _, rfl⟩⟩
    have I1 : Inv X pins σ (upd H s.heap.objs.size (.tup [.int (i : Nat), .str ⟨#[c]⟩])) { s with heap := h'', toks := tk + 1 } :=
      I.turnedNew (ch := [e, it]) (fun b ob hb q => (sb.2 b (fun z => hb (by simp [z]))).trans (hk b ob (fun z => hb (by simp [z])) (fun z => hb (by simp [z])) q)) hf (Nat.le_refl _) new
    refine ⟨.ref s.heap.objs.size, _, I1, rfl, ⟨_, c, rfl, I.hok.fresh (Nat.le_refl _), rfl, hcx⟩, ⟨⟨.str ⟨#[c]⟩ t', ?_⟩, ?_, hne⟩, fun b hb => ?_⟩
    · have e1 : ((i + 1 : Nat) : Int) = (i : Int) + 1 := by omega
      rw [e1]; exact he'
    · obtain ⟨o, q, r⟩ := hit'
      exact ⟨o, (sb.2 it (Ne.symm hne)).trans q, r⟩
    · have hb' : b < s.heap.objs.size := by
        have e' : b = e ∨ b = it := by simpa using hb
        rcases e' with z | z
        · rw [z]; exact hel
        · rw [z]; exact hil
      rw [upd_ne (Nat.ne_of_lt hb')]
      exact (hf b hb).1
  done := by
    intro X hP hw hK hc i pins s σ H E I hf st hg
    subst hP hw hK
    obtain ⟨⟨old, he⟩, hit, hne⟩ := st
    obtain ⟨f0, f1, f2, f3, f4, f5⟩ := hf it (by simp)
    have hd : X.A.in1.handled = none := I.ok.hd hc
    have D := Draws.text (prog := X.prog) (w := X.w) (A := X.A.in1) hd it x t
    have hg' : i = x.cps.size := hg
    rw [hg'] at hit
    exact wpAny_pyNext_enum_endD D he hit fun h' eb => ⟨rfl, I.turned (t' := s.toks) (fun b o hb q => eb b o hb q) f0 f1 f3 f4 f5⟩
  self := fun A i s Q E st h => let ⟨⟨_, he⟩, _⟩ := st; wpAny_pyIter_enum he h
def iEnumS (ta : TA) : TI := fun σ H R => ta σ H fun vs H1 => ∃ x, vs = [.str x] ∧ R (ItE x) H1
theorem pi_enumS {X : Cx} {e : Expr} {ta : TA} {p pos tpos : Pos} {elts : List Expr} {kk : Nat} (hg : Gl X "enumerate") (hm : X.mg "enumerate" = none) (ha : PA X [e] ta) (hs : starEach [e] X.env = [(false, eval e X.env)] := by rfl) :
    PI X (.Tuple elts kk tpos) (.Call (.Name "enumerate" p) [e] [] pos) (iEnumS ta) := by
  refine ⟨fun pins s σ H R I h => ?_⟩
  refine Call_ (ld_blt I hg hm boot_enumerate (PyProof.Rows.callWith_type1 (thn (ha.run pos pins s σ H _ I h) fun us s1 ⟨vs, H1, I1, r1, q1⟩ => ?_) hs rfl))
  obtain ⟨x, ex, q⟩ := q1
  subst ex
  cases r1 with
  | cons r rr =>
    cases rr
    obtain ⟨t, rfl⟩ := r
    refine call_enumerate_str fun h' he hit hsz hk => wpAny_pyIter_enum he ?_
    have I2 : Inv X pins σ H1 { s1 with heap := h' } := I1.kept (t' := s1.toks) hk
    refine ⟨s1.heap.objs.size + 1, [s1.heap.objs.size + 1, s1.heap.objs.size], _, _, H1, rfl, I2, turn_enumS (s1.heap.objs.size + 1) s1.heap.objs.size x t, ⟨⟨.none, he⟩, hit, Nat.succ_ne_self _⟩, fun b hb => ?_, q⟩
    have e' : b = s1.heap.objs.size + 1 ∨ b = s1.heap.objs.size := by simpa using hb
    have hle : s1.heap.objs.size ≤ b := by
      rcases e' with z | z
      · rw [z]; exact Nat.le_add_right _ _
      · rw [z]; exact Nat.le_refl _
    exact I1.fpOk hle (I1.hok.fresh hle)
theorem walk_enumS {x : PySem.Str} : Walk (ItE x) x.cps.size (fun _ => True) (fun i H v H' => ∃ T c, v = .ref T ∧ H T = none ∧ H' = upd H T (.tup [.int (i : Nat), .str ⟨#[c]⟩]) ∧ x.cps[i]? = some c) :=
  ⟨fun _ _ hi _ => hi, fun _ _ => rfl, fun _ _ _ _ _ _ y => y⟩
section
variable {X : Cx}
theorem pi_listK {tg l : Expr} {tl : TE} (K : PySem.W.Frag) (hK : X.K = K) (hl : PE X l tl) : PI X tg l (iList K tl) := by
  subst hK
  exact pi_list hl
theorem pg_tupK {es : List Expr} {k : Nat} {t : TGs} {n : Nat} {pos : Pos} (K : PySem.W.Frag) (hK : X.K = K) (hc : X.calm = true) (h : PGs X es t)
    (hn : (assignEach es X.env).length = n := by rfl) (hst : (assignEach es X.env).findIdx? (·.1) = none := by rfl) : PG X (.Tuple es k pos) (gTup K n t) := by
  subst hK
  exact pg_tup hc h hn hst
end
end Bm
namespace Bm
open PySem PySem.Spec PyProof.Rows L2 Evl
/-! ### patterns as texts -/
def sg (b : Bool) : Nat := if b then 49 else 48
def txt (p : List Bool) : PySem.Str := ⟨(p.map sg).toArray⟩
theorem txt_cps (p : List Bool) : (txt p).cps.toList = p.map sg := rfl
theorem txt_len (p : List Bool) : (txt p).length = p.length := by
  show (p.map sg).toArray.size = p.length
  simp
theorem txt_size (p : List Bool) : (txt p).cps.size = p.length := txt_len p
theorem txt_at {p : List Bool} {i : Nat} (h : i < p.length) : (p.map sg)[i]? = some (sg (p.getD i false)) := by
  rw [List.getElem?_map, List.getElem?_eq_getElem h, List.getD_eq_getElem?_getD, List.getElem?_eq_getElem h]
  rfl
theorem sg_inj {a b : Bool} (h : sg a = sg b) : a = b := by
  cases a <;> cases b <;> first | rfl | (exact absurd h (by decide))
theorem map_sg_inj : ∀ {p q : List Bool}, p.map sg = q.map sg → p = q
  | [], [], _ => rfl
  | [], _ :: _, h => by simp at h
  | _ :: _, [], h => by simp at h
  | a :: p, b :: q, h => by
    simp only [List.map_cons, List.cons.injEq] at h
    rw [sg_inj h.1, map_sg_inj h.2]
theorem txt_inj {p q : List Bool} (h : txt p = txt q) : p = q := by
  have e := congrArg (fun z : PySem.Str => z.cps.toList) h
  exact map_sg_inj e
theorem one_is (b : Bool) : decide (V.str ⟨#[sg b]⟩ = V.str "1") = b := by
  cases b <;> decide
theorem sg_one : sg true = 49 := rfl
theorem has1 (p : List Bool) : decide (49 ∈ (txt p).cps.toList) = decide (true ∈ p) := by
  rw [txt_cps]
  congr 1
  apply propext
  constructor
  · intro h
    obtain ⟨b, hb, e⟩ := List.mem_map.mp h
    have : b = true := sg_inj (e.trans sg_one.symm)
    rw [← this]; exact hb
  · intro h
    exact List.mem_map.mpr ⟨true, h, rfl⟩
theorem szl {n : Nat} (h : n ≤ 1000) : n ≤ sizeLine := Nat.le_of_lt (small1000 h)
/-! ### more evaluations -/
section
variable {K : PySem.W.Frag} {σ : L2.St} {H H' : Hp} {ta tb tc te : TE} {x y z v : V}
def rLenStr : List V → Hp → VK → Prop := fun xs H Q => ∃ z, xs = [.str z] ∧ z.length ≤ sizeLine ∧ Q (.int z.length) H
theorem ev_lenS {p : List Bool} (ha : Ev ta σ H (.str (txt p))) (h : p.length ≤ 1000) : Ev (tCB rLenStr (tCons ta tNil)) σ H (.int (p.length : Nat)) := fun H1 e Q q =>
  ha H1 e _ fun H2 e2 => ⟨txt p, rfl, by rw [txt_len]; exact szl h, by rw [txt_len]; exact q H2 e2⟩
theorem ev_addN {a b : Nat} (ha : Ev ta σ H (.int (a : Nat))) (hb : Ev tb σ H (.int (b : Nat))) : Ev (tOp (rI0 fun i j => .int (i + j)) ta tb) σ H (.int ((a + b : Nat) : Int)) :=
  ev_is (ev_op ha hb rv_I0) (by show V.int ((a : Int) + (b : Int)) = _; rw [Int.natCast_add])
theorem ev_mulN {a b : Nat} (ha : Ev ta σ H (.int (a : Nat))) (hb : Ev tb σ H (.int (b : Nat))) (h : a ≤ 1000000) : Ev (tOp (rI CMul fun i j => .int (i * j)) ta tb) σ H (.int ((a * b : Nat) : Int)) :=
  ev_is (ev_op ha hb (rv_I (Or.inl ⟨by omega, by omega⟩))) (by show V.int ((a : Int) * (b : Int)) = _; rw [Int.natCast_mul])
theorem ev_modN {a b : Nat} (ha : Ev ta σ H (.int (a : Nat))) (hb : Ev tb σ H (.int (b : Nat))) (h : 0 < b) : Ev (tOp (rI (fun _ j => 0 < j) fun i j => .int (i % j)) ta tb) σ H (.int ((a % b : Nat) : Int)) :=
  ev_is (ev_op ha hb (rv_I (by show (0 : Int) < (b : Int); omega))) (by show V.int ((a : Int) % (b : Int)) = _; rw [Int.natCast_emod])
theorem ev_ixP {p : List Bool} {i : Nat} (ha : Ev ta σ H (.str (txt p))) (hb : Ev tb σ H (.int (i : Nat))) (hi : i < p.length) (hl : p.length ≤ 1000) : Ev (tOp rIxS ta tb) σ H (.str ⟨#[sg (p.getD i false)]⟩) :=
  ev_op ha hb (rv_ixS (by rw [txt_len]; omega) (by rw [txt_cps]; exact atI_nat (txt_at hi)))
theorem ev_is1 {b : Bool} (ha : Ev ta σ H (.str ⟨#[sg b]⟩)) (hb : Ev tb σ H (.str "1")) : Ev (tOp rEq ta tb) σ H (.bl b) :=
  ev_is (ev_op ha hb (rv_eq rfl)) (by rw [one_is])
theorem ev_no1 {b : Bool} (ha : Ev ta σ H (.str ⟨#[sg b]⟩)) (hb : Ev tb σ H (.str "1")) : Ev (tOp rNe ta tb) σ H (.bl (!b)) :=
  ev_is (ev_op ha hb (rv_ne rfl)) (by rw [one_is])
def rSignNot : R2 := fun x y H Q => ∃ (c : Nat) (z : PySem.Str), x = .str ⟨#[c]⟩ ∧ y = .str z ∧ Q (.bl (!decide (c ∈ z.cps.toList))) H
def rSignIn : R2 := fun x y H Q => ∃ (c : Nat) (z : PySem.Str), x = .str ⟨#[c]⟩ ∧ y = .str z ∧ Q (.bl (decide (c ∈ z.cps.toList))) H
theorem ev_no1in {p : List Bool} (ha : Ev ta σ H (.str "1")) (hb : Ev tb σ H (.str (txt p))) : Ev (tOp rSignNot ta tb) σ H (.bl (!decide (true ∈ p))) :=
  ev_op ha hb fun H1 _ _ q => ⟨49, txt p, rfl, rfl, by rw [has1]; exact q H1 (Ex.refl H1)⟩
theorem ev_1in {p : List Bool} (ha : Ev ta σ H (.str "1")) (hb : Ev tb σ H (.str (txt p))) : Ev (tOp rSignIn ta tb) σ H (.bl (decide (true ∈ p))) :=
  ev_op ha hb fun H1 _ _ q => ⟨49, txt p, rfl, rfl, by rw [has1]; exact q H1 (Ex.refl H1)⟩
def rIsN : R2 := fun x y H Q => y = .non ∧ Q (.bl (decide (x = .non))) H
def rNotN : R2 := fun x y H Q => y = .non ∧ Q (.bl (!decide (x = .non))) H
theorem ev_isN (ha : Ev ta σ H x) : Ev (tOp rIsN ta (tC .non)) σ H (.bl (decide (x = .non))) :=
  ev_op ha ev_c fun H1 _ _ q => ⟨rfl, q H1 (Ex.refl H1)⟩
theorem ev_notN (ha : Ev ta σ H x) : Ev (tOp rNotN ta (tC .non)) σ H (.bl (!decide (x = .non))) :=
  ev_op ha ev_c fun H1 _ _ q => ⟨rfl, q H1 (Ex.refl H1)⟩
/-- an optional moment as a value -/
def oV : Option Nat → V
  | none => .non
  | some m => .int (m : Nat)
theorem oV_is (o : Option Nat) : decide (oV o = .non) = o.isNone := by
  cases o <;> rfl
/-! ### loops over enumerate(text) -/
theorem s_forES {ta : TA} {s : PySem.Str} {g : TG} {tu : TS} {D : Ends} (h : EvA ta σ H [.str s]) (Pv : Nat → L2.St → Hp → Prop) (h0 : ∀ H1, Ex H H1 → Pv 0 σ H1)
    (hs : ∀ i T c σ' H', s.cps[i]? = some c → Pv i σ' H' → H' T = none → g (.ref T) σ' (upd H' T (.tup [.int (i : Nat), .str ⟨#[c]⟩])) fun σ2 H2 => tu { D with nx := Pv (i + 1), ct := Pv (i + 1), bk := D.nx } σ2 H2)
    (hd : ∀ σ' H', Pv s.cps.size σ' H' → D.nx σ' H') : tFor (iEnumS ta) g tu D σ H :=
  h H (Ex.refl H) _ fun H1 e => ⟨s, rfl, for_it walk_enumS Pv (h0 H1 e) (fun _ _ _ _ _ => trivial) (fun i v σ' H' H2 _ p y => by
    obtain ⟨T, c, rfl, hT, rfl, hc⟩ := y
    exact hs i T c σ' H' hc p hT) hd⟩
theorem g_two {T : Addr} {x1 x2 : V} {i j : Nat} {Q : L2.St → Hp → Prop} (h : Q ((σ.set i (some x1)).set j (some x2)) (upd H T (.tup [x1, x2]))) :
    gTup K 2 (gCons (gName i) (gCons (gName j) gNil)) (.ref T) σ (upd H T (.tup [x1, x2])) Q :=
  ⟨T, [x1, x2], rfl, .inl (.inl upd_same), rfl, x1, [x2], rfl, x2, [], rfl, rfl, h⟩
theorem fault_txt {p : List Bool} (h : Pat 12 p) : fault (txt p).cps.toList = none := by
  have hn : (List.range (p.map sg).length).find? (fun i => badAt ((p.map sg).getD i 0) i) = none := find_range_no fun i hi => by
    rw [List.length_map] at hi
    have hh := h.hi
    have e : (p.map sg).getD i 0 = sg (p.getD i false) := by
      rw [List.getD_eq_getElem?_getD, txt_at hi]
      rfl
    rw [e]
    unfold badAt
    rw [decide_eq_false (by omega)]
    cases p.getD i false <;> rfl
  rw [txt_cps]
  unfold fault
  rw [hn]
  show (if 49 ∈ p.map sg then none else some (p.map sg).length) = none
  exact if_pos (List.mem_map.mpr ⟨true, h.has, rfl⟩)
/-- all but what stands at D is as it was -/
def ExB (D : Addr) (H H' : Hp) : Prop := ∀ a o, a ≠ D → H a = some o → H' a = some o
theorem Ex.b {D : Addr} (e : Ex H H') : ExB D H H' := fun a o _ h => e a o h
theorem ExB.refl {D : Addr} : ExB D H H := fun _ _ _ h => h
theorem ExB.trans {D : Addr} {H1 H2 : Hp} (a : ExB D H H1) (b : ExB D H1 H2) : ExB D H H2 := fun x o n h => b x o n (a x o n h)
theorem ExB.upd {D : Addr} {o : HO} : ExB D H (upd H D o) := fun a o n h => by rw [upd_ne n]; exact h
/-- the dice stand at D, all else that G tells stands -/
structure DD (D : Addr) (G H : Hp) : Prop where
  no : G D = none
  ex : Ex G H
  at_ : ∃ ds : List Int, 2 ≤ ds.length ∧ H D = some (.lst (ds.map V.int))
theorem DD.b {D : Addr} {G : Hp} {ds : List Int} (d : DD D G H) (e : ExB D H H') (h2 : 2 ≤ ds.length) (h : H' D = some (.lst (ds.map V.int))) : DD D G H' :=
  ⟨d.no, fun a o q => e a o (ne_of_none q d.no) (d.ex a o q), ds, h2, h⟩
theorem DD.up {D : Addr} {G : Hp} (d : DD D G H) (e : Ex H H') : DD D G H' := by
  obtain ⟨ds, h2, h⟩ := d.at_
  exact d.b (Ex.b e) h2 (e _ _ h)
/-- what stands besides the dice -/
def off_ (H : Hp) (D : Addr) : Hp := fun a => if a = D then none else H a
theorem DD.all {D : Addr} {G : Hp} (d : DD D G H) : DD D (off_ H D) H ∧ Ex G (off_ H D) := by
  refine ⟨⟨by unfold off_; rw [if_pos rfl], fun a o q => ?_, d.at_⟩, fun a o q => ?_⟩
  · unfold off_ at q
    split at q
    · cases q
    · exact q
  · unfold off_
    rw [if_neg (ne_of_none q d.no)]
    exact d.ex a o q
theorem el_cat {xs ys : List V} (ha : EvL ta σ H xs) (hb : EvL tb σ H ys) (hz : xs.length + ys.length ≤ 100000) : EvL (tOp rCat ta tb) σ H (xs ++ ys) := fun H1 e Q q =>
  ha H1 e _ fun p H2 hp e2 h2 => hb H2 (e.trans e2) _ fun p' H3 hp' e3 h3 => ⟨p, p', xs, ys, rfl, rfl, e3 p _ h2, h3, sz_of hz, fun l hl => q l _ (fresh_back (e2.trans e3) hl) ((e2.trans e3).trans (Ex.new hl)) upd_same⟩
theorem ev_cbL {r : List V → Hp → VK → Prop} {xs : List V} (ha : EvL ta σ H xs) (hr : ∀ p H1, H1 p = some (.lst xs) → Ex H H1 → RC r [.ref p] H1 z) : Ev (tCB r (tCons ta tNil)) σ H z := fun H1 e Q q =>
  ha H1 e _ fun p H2 hp e2 h2 => hr p H2 h2 (e.trans e2) H2 (Ex.refl H2) Q fun H3 e3 => q H3 (e2.trans e3)
/-! ### readings where the heap changes -/
theorem r_op {r : R2} {Q : VK} (ha : Ev ta σ H x) (hb : ∀ H1, Ex H H1 → tb σ H1 fun y H2 => r x y H2 Q) : tOp r ta tb σ H Q := ha H (Ex.refl H) _ hb
theorem r_opc {r : R2} {Q : VK} {c : V} (ha : ta σ H fun x H1 => r x c H1 Q) : tOp r ta (tC c) σ H Q := ha
theorem r_op2 {r : R2} {Q : VK} (ha : ta σ H fun x H1 => tb σ H1 fun y H2 => r x y H2 Q) : tOp r ta tb σ H Q := ha
theorem r_cb1 {r : List V → Hp → VK → Prop} {Q : VK} (ha : ta σ H fun x H1 => r [x] H1 Q) : tCB r (tCons ta tNil) σ H Q := ha
theorem r_call {sp : Sp} {E : XK} {ta : TA} {vs : List V} {Q : VK} (h : EvA ta σ H vs) (hs : ∀ H1, Ex H H1 → sp (vs ++ []) H1 Q E) : tCall sp [] E ta σ H Q := h H (Ex.refl H) _ hs
theorem r_call2 {sp : Sp} {E : XK} {Q : VK} (h : ta σ H fun x H1 => tb σ H1 fun y H2 => sp [x, y] H2 Q E) : tCall sp [] E (tCons ta (tCons tb tNil)) σ H Q := h
theorem r_asg {i : Nat} {D : Ends} (h : te σ H fun x H1 => D.nx (σ.set i (some x)) H1) : tAsg te (gName i) D σ H := h
theorem r_qasg {i : Nat} {D : Ends} {tz : TS} (h : te σ H fun x H1 => tz D (σ.set i (some x)) H1) : tSeq (tAsg te (gName i)) tz D σ H := h
theorem r_qdrop {D : Ends} {tz : TS} (h : te σ H fun x H1 => tz D σ H1) : tSeq (tDrop te) tz D σ H := h
theorem r_qpar {i j : Nat} {D : Ends} {tz : TS} (h : ta σ H fun x H1 => tb σ H1 fun y H2 => ∃ v w, [x, y] = [v, w] ∧ tz D ((σ.set i (some v)).set j (some w)) H2) : tSeq (tPar i j (tCons ta (tCons tb tNil))) tz D σ H := h
theorem r_par {i j : Nat} {D : Ends} (h : ta σ H fun x H1 => tb σ H1 fun y H2 => ∃ v w, [x, y] = [v, w] ∧ D.nx ((σ.set i (some v)).set j (some w)) H2) : tPar i j (tCons ta (tCons tb tNil)) D σ H := h
theorem r_ret {D : Ends} (h : te σ H D.rt) : tRet te D σ H := h
theorem r_if {t : TT} {D : Ends} {tu tw : TS} (h : t σ H fun b H1 => if b = true then tu D σ H1 else tw D σ H1) : tIfS t tu tw D σ H := h
theorem r_qif {t : TT} {D : Ends} {tu tw tz : TS} (h : t σ H fun b H1 => if b = true then tu { D with nx := tz D } σ H1 else tw { D with nx := tz D } σ H1) : tSeq (tIfS t tu tw) tz D σ H := h
theorem r_test {Q : Bool → Hp → Prop} (h : te σ H fun x H1 => ∃ k, x = .bl k ∧ Q k H1) : tTest te σ H Q := h
theorem r_B {Q : Bool → Hp → Prop} (h : te σ H fun x H1 => ∃ k, x = .bl k ∧ Q k H1) : tB te σ H Q := h
theorem r_yes {Q1 : VK} {Q2 : Hp → Prop} (h : te σ H Q1) : tYes σ H (fun b H3 => if b = true then te σ H3 Q1 else Q2 H3) := by
  show if true = true then te σ H Q1 else Q2 H
  exact iteT h
/-! ### isinstance -/
theorem ty_l {a : Addr} {xs : List V} (h : SqL K H a xs) : TyX K H (.ref a) (.type "list") := by
  rcases h with (h | ⟨o, h⟩) | ⟨o, _, _, h1, h2, _⟩
  · exact .base (.lst h)
  · exact .base (.frz h)
  · exact .kList h1 h2
theorem ty_t {a : Addr} {xs : List V} (h : SqT K H a xs) : TyX K H (.ref a) (.type "tuple") := by
  rcases h with (h | ⟨o, h⟩) | ⟨o, _, _, h1, h2, _⟩
  · exact .base (.tup h)
  · exact .fTuple h
  · exact .kTuple h1 h2
theorem ev_isi {a b : String} {r : Bool} (ha : Ev ta σ H x) (ht : ∀ H1, Ex H H1 → TyX K H1 x (.type a)) (hk : kitB a b = some r) : Ev (tCB (rIsi K) (tCons ta (tCons (tC (.ty b)) tNil))) σ H (.bl r) := fun H1 e Q q =>
  ha H1 e _ fun H2 e2 => ⟨x, .ty b, .type a, .type b, r, rfl, .ty b, ht H2 (e.trans e2), kit_ty hk, q H2 e2⟩
/-- v and u are the same data, n deep -/
def sc1 : V → Bool
  | .non => true
  | .bl _ => true
  | .int _ => true
  | .str _ => true
  | _ => false
def Al (K : PySem.W.Frag) (H : Hp) : Nat → V → V → Prop
  | 0, v, u => v = u ∧ sc1 v = true
  | n + 1, v, u => (v = u ∧ sc1 v = true) ∨ ∃ a b xs ys, v = .ref a ∧ u = .ref b ∧ ((SqL K H a xs ∧ SqL K H b ys) ∨ (SqT K H a xs ∧ SqT K H b ys)) ∧ xs.length = ys.length ∧ xs.length ≤ 40000 ∧
      ∀ (i : Nat) x y, xs[i]? = some x → ys[i]? = some y → Al K H n x y
theorem Al.up (e : Ex H H') : ∀ {n : Nat} {v u : V}, Al K H n v u → Al K H' n v u
  | 0, _, _, h => h
  | n + 1, _, _, h => by
    rcases h with h | ⟨a, b, xs, ys, e1, e2, h3, h4, h5, h6⟩
    · exact .inl h
    · refine .inr ⟨a, b, xs, ys, e1, e2, ?_, h4, h5, fun i x y hx hy => Al.up e (h6 i x y hx hy)⟩
      rcases h3 with ⟨p, q⟩ | ⟨p, q⟩
      · exact .inl ⟨ex_l e p, ex_l e q⟩
      · exact .inr ⟨ex_t e p, ex_t e q⟩
theorem al_sc {n : Nat} (h : sc1 v = true) : Al K H n v v := by
  cases n with
  | zero => exact ⟨rfl, h⟩
  | succ n => exact .inl ⟨rfl, h⟩
/-! ### texts -/
theorem str_ext {a b : PySem.Str} (h : a.cps.toList = b.cps.toList) : a = b := by
  obtain ⟨⟨x⟩⟩ := a
  obtain ⟨⟨y⟩⟩ := b
  have h : x = y := h
  rw [h]
theorem joinL_nil : ∀ ps : List (List Nat), TL.joinL [] ps = ps.flatten
  | [] => rfl
  | [p] => by simp [TL.joinL]
  | p :: q :: r => by
    show p ++ ([] ++ TL.joinL [] (q :: r)) = _
    rw [joinL_nil (q :: r)]
    rfl
theorem flat_one : ∀ p : List Bool, (p.map fun b => [sg b]).flatten = p.map sg
  | [] => rfl
  | b :: p => by
    show [sg b] ++ (p.map fun b => [sg b]).flatten = sg b :: p.map sg
    rw [flat_one p]
    rfl
theorem join_txt (p : List Bool) : Txt.join "" (p.map fun b => (⟨#[sg b]⟩ : PySem.Str)) = txt p := by
  apply str_ext
  rw [TL.join_eq]
  refine (TL.tl_join "" _).trans ?_
  show TL.joinL [] _ = p.map sg
  rw [joinL_nil, List.map_map, ← flat_one]
  rfl
theorem txt_app (p q : List Bool) : txt p ++ txt q = txt (p ++ q) := by
  apply str_ext
  show ((txt p).cps ++ (txt q).cps).toList = (p ++ q).map sg
  rw [Array.toList_append, List.map_append]
  rfl
theorem cut_drop (p : List Bool) (k : Nat) : cutS (txt p) (some (k : Nat)) none = txt (p.drop k) := by
  apply str_ext
  show ((p.map sg).drop (HT.sIx (txt p).length 0 (some (k : Nat)))).take (HT.sIx (txt p).length (txt p).length none - HT.sIx (txt p).length 0 (some (k : Nat))) = (p.drop k).map sg
  rw [txt_len, show HT.sIx p.length 0 (some ((k : Nat) : Int)) = min k p.length from HT.sIx_nat _ _ _, HT.sIx_none, ← List.map_drop, ← List.map_take]
  congr 1
  rw [List.take_of_length_le (by rw [List.length_drop]; exact Nat.le_refl _)]
  by_cases h : k ≤ p.length
  · rw [Nat.min_eq_left h]
  · rw [Nat.min_eq_right (by omega), List.drop_length, List.drop_eq_nil_of_le (by omega)]
theorem cut_take (p : List Bool) (k : Nat) : cutS (txt p) none (some (k : Nat)) = txt (p.take k) := by
  apply str_ext
  show ((p.map sg).drop (HT.sIx (txt p).length 0 none)).take (HT.sIx (txt p).length (txt p).length (some (k : Nat)) - HT.sIx (txt p).length 0 none) = (p.take k).map sg
  rw [txt_len, show HT.sIx p.length p.length (some ((k : Nat) : Int)) = min k p.length from HT.sIx_nat _ _ _, HT.sIx_none, List.drop_zero, Nat.sub_zero, ← List.map_take]
  congr 1
  by_cases h : k ≤ p.length
  · rw [Nat.min_eq_left h]
  · rw [Nat.min_eq_right (by omega), List.take_length, List.take_of_length_le (by omega)]
def rAddS : R2 := fun x y H Q => ∃ i j, x = .str i ∧ y = .str j ∧ i.length + j.length ≤ sizeLine ∧ Q (.str (i ++ j)) H
theorem ev_addS {p q : List Bool} (ha : Ev ta σ H (.str (txt p))) (hb : Ev tb σ H (.str (txt q))) (hz : p.length + q.length ≤ 1000) : Ev (tOp rAddS ta tb) σ H (.str (txt (p ++ q))) :=
  ev_op ha hb fun H1 _ _ q' => ⟨txt p, txt q, rfl, rfl, by rw [txt_len, txt_len]; exact szl hz, by rw [txt_app]; exact q' H1 (Ex.refl H1)⟩
theorem ev_drop {p : List Bool} {k : Nat} (ha : Ev ta σ H (.str (txt p))) (hb : Ev tb σ H (.int (k : Nat))) (hz : p.length ≤ 1000) : Ev (tSl rSlS ta (tPart tb) tNoPart) σ H (.str (txt (p.drop k))) := fun H1 e Q q =>
  ha H1 e _ fun H2 e2 => hb H2 (e.trans e2) _ fun H3 e3 => ⟨_, rfl, txt p, rfl, by rw [txt_len]; exact szl hz, by rw [cut_drop]; exact q H3 (e2.trans e3)⟩
theorem ev_take {p : List Bool} {k : Nat} (ha : Ev ta σ H (.str (txt p))) (hb : Ev tb σ H (.int (k : Nat))) (hz : p.length ≤ 1000) : Ev (tSl rSlS ta tNoPart (tPart tb)) σ H (.str (txt (p.take k))) := fun H1 e Q q =>
  ha H1 e _ fun H2 e2 => hb H2 (e.trans e2) _ fun H3 e3 => ⟨_, rfl, txt p, rfl, by rw [txt_len]; exact szl hz, by rw [cut_take]; exact q H3 (e2.trans e3)⟩
theorem txt1 : ("1" : PySem.Str) = txt [true] := rfl
theorem txt0 : ("0" : PySem.Str) = txt [false] := rfl
end
/-- one sign, so many times -/
def rRepS : R2 := fun x y H Q => ∃ (c n : Nat), x = .str ⟨#[c]⟩ ∧ y = .int (n : Nat) ∧ n ≤ 1000 ∧ Q (.str ⟨(List.replicate n c).toArray⟩) H
theorem rep_fold (c : Nat) : ∀ (n : Nat) (acc : Array Nat), ((List.replicate n (#[c] : Array Nat)).foldl (· ++ ·) acc).toList = acc.toList ++ List.replicate n c
  | 0, acc => by simp
  | n + 1, acc => by
    rw [List.replicate_succ, List.foldl_cons, rep_fold c n, List.replicate_succ]
    simp
theorem op_rep_str {X : Cx} : OpR X (binaryOp .Mult) rRepS := by
  intro pins s σ H x y v u Q I rx ry h
  obtain ⟨c, n, rfl, rfl, hn, q⟩ := h
  obtain ⟨t, rfl⟩ := rx
  obtain ⟨t', rfl⟩ := ry
  have hsz : (1 : Nat) ≤ sizeLine := by decide
  have hl1 : (⟨#[c]⟩ : PySem.Str).length = 1 := rfl
  refine PySem.P.mul_str ?_ ?_ ?_ ?_
  · rw [decide_eq_false (by omega), decide_eq_false (by omega)]
    rfl
  · intro h1 _
    rw [hl1]
    intro h2
    have h3 : ((2 : Int) ^ 63 - 1) / (n : Int) ≥ 1 := (Int.le_ediv_iff_mul_le (by omega)).mpr (by omega)
    omega
  · intro h1 _
    show decide ((⟨#[c]⟩ : PySem.Str).length * ((n : Int)).toNat > sizeLine) = false
    rw [hl1, Nat.one_mul, Int.toNat_natCast]
    exact decide_eq_false (Nat.not_lt.mpr (szl hn))
  · by_cases h0 : n = 0
    · subst h0
      rw [if_pos (by decide)]
      exact ⟨by decide, ⟨.str ⟨#[]⟩, H, I.tok _, ⟨_, rfl⟩, q⟩⟩
    · rw [if_neg (by omega)]
      by_cases h1 : n = 1
      · subst h1
        rw [if_pos (by simp)]
        exact ⟨.str ⟨#[c]⟩, H, I, ⟨_, rfl⟩, q⟩
      · have hb : (((n : Int) == 1) || (⟨#[c]⟩ : PySem.Str).length == 0) = false := by
          rw [hl1]
          simp
          omega
        rw [if_neg (by rw [hb]; exact Bool.false_ne_true)]
        have e : (⟨(List.replicate ((n : Int)).toNat (⟨#[c]⟩ : PySem.Str).cps).foldl (· ++ ·) #[]⟩ : PySem.Str) = ⟨(List.replicate n c).toArray⟩ := by
          apply str_ext
          rw [Int.toNat_natCast]
          show ((List.replicate n (#[c] : Array Nat)).foldl (· ++ ·) #[]).toList = List.replicate n c
          rw [rep_fold]
          rfl
        rw [e]
        refine ⟨?_, ⟨.str ⟨(List.replicate n c).toArray⟩, H, I.tok _, ⟨_, rfl⟩, q⟩⟩
        show (List.replicate n c).toArray.size ≤ sizeLine
        rw [List.size_toArray, List.length_replicate]
        exact szl hn
theorem rep_txt (n : Nat) (b : Bool) : (⟨(List.replicate n (sg b)).toArray⟩ : PySem.Str) = txt (List.replicate n b) := by
  unfold txt
  rw [List.map_replicate]
theorem ev_repS {σ : L2.St} {H : Hp} {ta tb : TE} {b : Bool} {n : Nat} (ha : Ev ta σ H (.str (txt [b]))) (hb : Ev tb σ H (.int (n : Nat))) (hn : n ≤ 1000) : Ev (tOp rRepS ta tb) σ H (.str (txt (List.replicate n b))) :=
  ev_op ha hb fun H1 _ _ q' => ⟨sg b, n, rfl, rfl, hn, by rw [rep_txt]; exact q' H1 (Ex.refl H1)⟩
/-! ### the beats awake, as values -/
def onesV (p : List Bool) : List V := (ones p).map fun i => V.int (i : Nat)
theorem ones_given (p : List Bool) : given p.length (fun i => p.getD i false) (fun i => .int (i : Nat)) = onesV p := rfl
def spOnes : Sp := fun vs H Q _ => ∃ p : List Bool, vs = [.str (txt p)] ∧ p.length ≤ 1000 ∧ RetL (onesV p) H Q
theorem in_onesV {p : List Bool} (h : 0 < p.length) (i : Nat) : inV (.int ((i % p.length : Nat) : Int)) (onesV p) = aw p i := by
  rw [aw_iff h]
  unfold inV onesV
  rw [List.any_map]
  have e : ∀ j : Nat, ((fun y => eqV y (.int ((i % p.length : Nat) : Int))) ∘ fun j : Nat => V.int (j : Nat)) j = decide (j = i % p.length) := by
    intro j
    show decide (((j : Nat) : Int) = ((i % p.length : Nat) : Int)) = _
    exact decide_eq_decide.mpr (by omega)
  rw [List.any_eq]
  refine decide_eq_decide.mpr ?_
  constructor
  · rintro ⟨j, hj, h2⟩
    rw [e j] at h2
    rw [← of_decide_eq_true h2]
    exact hj
  · intro h2
    exact ⟨_, h2, by rw [e]; exact decide_eq_true rfl⟩
theorem onesV_flat (p : List Bool) : (onesV p).all flatV = true := by
  unfold onesV
  rw [List.all_map, List.all_eq_true]
  intro _ _
  rfl
theorem onesV_len (p : List Bool) : (onesV p).length ≤ p.length := by
  unfold onesV ones
  rw [List.length_map]
  have := List.length_filter_le (fun i => p.getD i false) (List.range p.length)
  rw [List.length_range] at this
  exact this
theorem DD.set {D : Addr} {G H : Hp} {p : Addr} {o : HO} (d : DD D G H) (hp : G p = none) (hD : p ≠ D) : DD D G (upd H p o) := by
  obtain ⟨ds, h2, h⟩ := d.at_
  exact ⟨d.no, fun a u q => by rw [upd_ne (ne_of_none q hp)]; exact d.ex a u q, ds, h2, by rw [upd_ne hD.symm]; exact h⟩
theorem DD.ne {D : Addr} {G H : Hp} {p : Addr} (d : DD D G H) (hp : H p = none) : p ≠ D := by
  obtain ⟨ds, _, h⟩ := d.at_
  exact (ne_of_none h hp).symm
theorem ev_chain {K : PySem.W.Frag} {σ : L2.St} {H : Hp} {ta tb tc : TE} {r r' : R2} {x y z : V} {b c : Bool} (ha : Ev ta σ H x) (hb : Ev tb σ H y) (hc : Ev tc σ H z) (h1 : RV r x y H (.bl b)) (h2 : RV r' y z H (.bl c)) : Ev (tChain r r' ta tb tc) σ H (.bl (b && c)) := fun H1 e Q q =>
  ha H1 e _ fun H2 e2 => hb H2 (e.trans e2) _ fun H3 e3 => h1 H3 ((e.trans e2).trans e3) _ fun H4 e4 => ⟨b, rfl, by
    cases b with
    | true =>
      rw [if_pos rfl]
      exact hc H4 (((e.trans e2).trans e3).trans e4) _ fun H5 e5 => h2 H5 ((((e.trans e2).trans e3).trans e4).trans e5) _ fun H6 e6 => q H6 ((((e2).trans e3).trans e4).trans (e5.trans e6))
    | false =>
      rw [if_neg Bool.false_ne_true]
      exact q H4 ((e2.trans e3).trans e4)⟩
end Bm
namespace Bm
open PySem PySem.Spec PyProof.Rows L2 Evl
/-! ### cells: a plain value, or a tuple of plain values -/
inductive Cel where
  | v (x : V)
  | t (xs : List V)
def Is (K : PySem.W.Frag) (H : Hp) (v : V) : Cel → Prop
  | .v x => v = x
  | .t xs => ∃ a, v = .ref a ∧ SqT K H a xs
section
variable {K : PySem.W.Frag} {σ : L2.St} {H H' H1 H2 : Hp} {ta tb te tl : TE} {t : TT} {x y z v : V} {c : Cel}
theorem Is.up (h : Is K H v c) (e : Ex H H') : Is K H' v c := by
  cases c with
  | v x => exact h
  | t xs =>
    obtain ⟨a, h1, h2⟩ := h
    exact ⟨a, h1, ex_t e h2⟩
/-- all but lists is as it was -/
def ExT (H H' : Hp) : Prop := ∀ a xs, (H a = some (.tup xs) → H' a = some (.tup xs)) ∧ ∀ o, H a = some (.frz o (.tup xs)) → H' a = some (.frz o (.tup xs))
theorem Ex.toT (e : Ex H H') : ExT H H' := fun a xs => ⟨fun h => e _ _ h, fun o h => e _ _ h⟩
theorem ExB.toT {D : Addr} {l : List V} (e : ExB D H H') (hD : H D = some (.lst l)) : ExT H H' := fun a xs =>
  ⟨fun h => e _ _ (fun z => by rw [z, hD] at h; cases h) h, fun o h => e _ _ (fun z => by rw [z, hD] at h; cases h) h⟩
theorem ExT.upd {D : Addr} {l : List V} {o : HO} (hD : H D = some (.lst l)) : ExT H (upd H D o) := ExB.toT ExB.upd hD
theorem Is.ut (h : Is K H v c) (e : ExT H H') : Is K H' v c := by
  cases c with
  | v x => exact h
  | t xs =>
    obtain ⟨a, h1, h2⟩ := h
    refine ⟨a, h1, ?_⟩
    rcases h2 with (h | ⟨o, h⟩) | h
    · exact .inl (.inl ((e a xs).1 h))
    · exact .inl (.inr ⟨o, (e a xs).2 o h⟩)
    · exact .inr h
abbrev IsAll (K : PySem.W.Frag) (H : Hp) : List V → List Cel → Prop := Paired (Is K H)
theorem IsAll.up {xs : List V} {cs : List Cel} (h : IsAll K H xs cs) (e : Ex H H') : IsAll K H' xs cs := Paired.mapP h fun _ _ q => q.up e
theorem IsAll.ut {xs : List V} {cs : List Cel} (h : IsAll K H xs cs) (e : ExT H H') : IsAll K H' xs cs := Paired.mapP h fun _ _ q => q.ut e
theorem pr_get {α β : Type} {F : α → β → Prop} : ∀ {xs : List α} {ys : List β} {i : Nat} {x : α}, Paired F xs ys → xs[i]? = some x → ∃ y, ys[i]? = some y ∧ F x y
  | _, _, _, _, .nil, e => by simp at e
  | _, _, 0, _, .cons r _, e => by simp at e; subst e; exact ⟨_, rfl, r⟩
  | _, _, i + 1, x, .cons _ t, e => by
    obtain ⟨u, h1, h2⟩ := pr_get (i := i) (x := x) t (by simpa using e)
    exact ⟨u, by simpa using h1, h2⟩
theorem pr_get' {α β : Type} {F : α → β → Prop} : ∀ {xs : List α} {ys : List β} {i : Nat} {y : β}, Paired F xs ys → ys[i]? = some y → ∃ x, xs[i]? = some x ∧ F x y
  | _, _, _, _, .nil, e => by simp at e
  | _, _, 0, _, .cons r _, e => by simp at e; subst e; exact ⟨_, rfl, r⟩
  | _, _, i + 1, x, .cons _ t, e => by
    obtain ⟨u, h1, h2⟩ := pr_get' (i := i) (y := x) t (by simpa using e)
    exact ⟨u, by simpa using h1, h2⟩
theorem pr_len {α β : Type} {F : α → β → Prop} {xs : List α} {ys : List β} (h : Paired F xs ys) : xs.length = ys.length := Paired.length h
theorem pr_app {α β : Type} {F : α → β → Prop} : ∀ {xs xs' : List α} {ys ys' : List β}, Paired F xs ys → Paired F xs' ys' → Paired F (xs ++ xs') (ys ++ ys')
  | _, _, _, _, .nil, h => h
  | _, _, _, _, .cons r t, h => .cons r (pr_app t h)
theorem pr_vals : ∀ {xs ys : List V}, Paired (Is K H) xs (ys.map .v) → xs = ys
  | _, [], h => by cases h; rfl
  | _, y :: ys, h => by
    cases h with
    | cons r t =>
      rw [pr_vals t]
      exact congrArg (· :: ys) r
theorem vals_pr : ∀ ys : List V, Paired (Is K H) ys (ys.map .v)
  | [] => .nil
  | y :: ys => .cons rfl (vals_pr ys)
/-- evaluates to a cell; to a new list of cells -/
def EvC (K : PySem.W.Frag) (te : TE) (σ : L2.St) (H : Hp) (c : Cel) : Prop := ∀ H1, Ex H H1 → ∀ Q : VK, (∀ v H2, Ex H1 H2 → Is K H2 v c → Q v H2) → te σ H1 Q
def EvN (K : PySem.W.Frag) (te : TE) (σ : L2.St) (H : Hp) (cs : List Cel) : Prop := ∀ H1, Ex H H1 → ∀ Q : VK, (∀ p xs H2, H1 p = none → Ex H1 H2 → H2 p = some (.lst xs) → IsAll K H2 xs cs → Q (.ref p) H2) → te σ H1 Q
def RetC (K : PySem.W.Frag) (c : Cel) (H : Hp) (Q : VK) : Prop := ∀ v H2, Ex H H2 → Is K H2 v c → Q v H2
def RetN (K : PySem.W.Frag) (cs : List Cel) (H : Hp) (Q : VK) : Prop := ∀ p xs H2, H p = none → Ex H H2 → H2 p = some (.lst xs) → IsAll K H2 xs cs → Q (.ref p) H2
theorem EvC.mono (h : EvC K te σ H c) (e : Ex H H') : EvC K te σ H' c := fun H1 a Q q => h H1 (e.trans a) Q q
theorem EvN.mono {cs : List Cel} (h : EvN K te σ H cs) (e : Ex H H') : EvN K te σ H' cs := fun H1 a Q q => h H1 (e.trans a) Q q
theorem ec_ev (h : Ev te σ H x) : EvC K te σ H (.v x) := fun H1 e Q q => h H1 e Q fun H2 e2 => q x H2 e2 rfl
theorem ev_ec (h : EvC K te σ H (.v x)) : Ev te σ H x := fun H1 e Q q => h H1 e Q fun v H2 e2 i => by
  have i : v = x := i
  rw [i]
  exact q H2 e2
theorem en_el {xs : List V} (h : EvL te σ H xs) : EvN K te σ H (xs.map .v) := fun H1 e Q q => h H1 e Q fun p H2 hp e2 h2 => q p xs H2 hp e2 h2 (vals_pr xs)
theorem el_en {xs : List V} (h : EvN K te σ H (xs.map .v)) : EvL te σ H xs := fun H1 e Q q => h H1 e Q fun p ys H2 hp e2 h2 i => by
  rw [pr_vals i] at h2
  exact q p H2 hp e2 h2
theorem ec_var {i : Nat} (h : σ[i]? = some (some v)) (hi : Is K H v c) : EvC K (tVar i) σ H c := fun H1 e Q q => ⟨v, h, q v H1 (Ex.refl H1) (hi.up e)⟩
theorem ec_tup {ta : TA} {xs : List V} (h : EvA ta σ H xs) (hl : xs.length ≤ 1000) : EvC K (tTup ta) σ H (.t xs) := fun H1 e Q q =>
  h H1 e _ fun H2 e2 => ⟨szl hl, fun p hp => q _ _ (e2.trans (Ex.new hp)) ⟨p, rfl, .inl (.inl upd_same)⟩⟩
theorem ec_call {sp : Sp} {E : XK} {ta : TA} {vs : List V} (h : EvA ta σ H vs) (hs : ∀ H1, Ex H H1 → ∀ Q : VK, RetC K c H1 Q → sp (vs ++ []) H1 Q E) : EvC K (tCall sp [] E ta) σ H c := fun H1 e Q q =>
  h H1 e _ fun H2 e2 => hs H2 (e.trans e2) Q fun v H3 e3 i => q v H3 (e2.trans e3) i
theorem en_call {sp : Sp} {E : XK} {ta : TA} {vs : List V} {cs : List Cel} (h : EvA ta σ H vs) (hs : ∀ H1, Ex H H1 → ∀ Q : VK, RetN K cs H1 Q → sp (vs ++ []) H1 Q E) : EvN K (tCall sp [] E ta) σ H cs := fun H1 e Q q =>
  h H1 e _ fun H2 e2 => hs H2 (e.trans e2) Q fun p xs H3 hp e3 h3 i => q p xs H3 (fresh_back e2 hp) (e2.trans e3) h3 i
/-- c[i] of a tuple -/
theorem ev_ixC {xs : List V} {i : Nat} (h : EvC K ta σ H (.t xs)) (hb : Ev tb σ H (.int (i : Nat))) (hi : xs[i]? = some v) : Ev (tOp (rIxT K) ta tb) σ H v := fun H1 e Q q =>
  h H1 e _ fun w H2 e2 is => by
    obtain ⟨a, rfl, hs⟩ := is
    exact hb H2 (e.trans e2) _ fun H3 e3 => ⟨a, xs, (i : Nat), v, rfl, rfl, ex_t e3 hs, atI_nat hi, q H3 (e2.trans e3)⟩
theorem en_cat {cs ds : List Cel} (ha : EvN K ta σ H cs) (hb : EvN K tb σ H ds) (hz : cs.length + ds.length ≤ 100000) : EvN K (tOp rCat ta tb) σ H (cs ++ ds) := fun H1 e Q q =>
  ha H1 e _ fun p xs H2 hp e2 h2 i2 => hb H2 (e.trans e2) _ fun p' ys H3 hp' e3 h3 i3 => ⟨p, p', xs, ys, rfl, rfl, e3 p _ h2, h3, by rw [pr_len i2, pr_len i3]; exact sz_of hz, fun l hl => q l _ _ (fresh_back (e2.trans e3) hl) ((e2.trans e3).trans (Ex.new hl)) upd_same (pr_app ((i2.up e3).up (Ex.new hl)) (i3.up (Ex.new hl)))⟩
/-- a list that stands, + a new one -/
theorem en_catV {a : Addr} {xs : List V} {cs ds : List Cel} (ha : Ev ta σ H (.ref a)) (hx : H a = some (.lst xs)) (hi : IsAll K H xs cs) (hb : EvN K tb σ H ds) (hz : cs.length + ds.length ≤ 100000) : EvN K (tOp rCat ta tb) σ H (cs ++ ds) := fun H1 e Q q =>
  ha H1 e _ fun H2 e2 => hb H2 (e.trans e2) _ fun p' ys H3 hp' e3 h3 i3 => ⟨a, p', xs, ys, rfl, rfl, ((e.trans e2).trans e3) a _ hx, h3, by rw [pr_len hi, pr_len i3]; exact sz_of hz, fun l hl => q l _ _ (fresh_back (e2.trans e3) hl) ((e2.trans e3).trans (Ex.new hl)) upd_same (pr_app (hi.up (((e.trans e2).trans e3).trans (Ex.new hl))) (i3.up (Ex.new hl)))⟩
/-! ### comprehensions that give cells -/
def givenC (n : Nat) (f : Nat → Bool) (g : Nat → Cel) : List Cel := ((List.range n).filter f).map g
theorem givenC_yes {n : Nat} {f : Nat → Bool} {g : Nat → Cel} (h : f n = true) : givenC (n + 1) f g = givenC n f g ++ [g n] := by
  unfold givenC
  rw [List.range_succ, List.filter_append, List.map_append, List.filter_cons, if_pos h] <;> rfl
theorem givenC_no {n : Nat} {f : Nat → Bool} {g : Nat → Cel} (h : f n = false) : givenC (n + 1) f g = givenC n f g := by
  unfold givenC
  rw [List.range_succ, List.filter_append, List.map_append, List.filter_cons, if_neg (by rw [h]; decide)]
  show _ ++ [] = _
  rw [List.append_nil]
theorem givenC_len (n : Nat) (f : Nat → Bool) (g : Nat → Cel) : (givenC n f g).length ≤ n := by
  unfold givenC
  rw [List.length_map]
  have h := List.length_filter_le f (List.range n)
  rw [List.length_range] at h
  exact h
def Cv (K : PySem.W.Frag) (H : Hp) (f : Nat → Bool) (g : Nat → Cel) (Dl : Addr) (i : Nat) (H' : Hp) : Prop := H Dl = none ∧ Ex H H' ∧ ∃ xs, H' Dl = some (.lst xs) ∧ IsAll K H' xs (givenC i f g)
theorem cv_turn {f : Nat → Bool} {g : Nat → Cel} {Dl : Addr} {i : Nat} {σ2 : L2.St} (p : Cv K H f g Dl i H') (hi : i < 50000) (ht : EvT t σ2 H (f i)) (he : f i = true → EvC K te σ2 H (g i)) :
    t σ2 H' fun b H3 => if b = true then te σ2 H3 fun y H4 => ∃ acc, H4 Dl = some (.lst acc) ∧ acc.length < sizeLine ∧ Cv K H f g Dl (i + 1) (upd H4 Dl (.lst (acc ++ [y]))) else Cv K H f g Dl (i + 1) H3 := by
  obtain ⟨p1, p2, xs, p3, p4⟩ := p
  refine ht H' p2 _ fun H3 e3 => ?_
  cases hf : f i with
  | true =>
    show te σ2 H3 fun y H4 => ∃ acc, H4 Dl = some (.lst acc) ∧ acc.length < sizeLine ∧ Cv K H f g Dl (i + 1) (upd H4 Dl (.lst (acc ++ [y])))
    refine he hf H3 (p2.trans e3) _ fun y H4 e4 iy => ⟨xs, e4 Dl _ (e3 Dl _ p3), sz_lt (by have := givenC_len i f g; have := pr_len p4; omega), p1, Ex.mut ((p2.trans e3).trans e4) p1, _, upd_same, ?_⟩
    rw [givenC_yes hf]
    have h4 := e4 Dl _ (e3 Dl _ p3)
    exact pr_app ((p4.up (e3.trans e4)).ut (ExT.upd h4)) (.cons (iy.ut (ExT.upd h4)) .nil)
  | false =>
    show Cv K H f g Dl (i + 1) H3
    refine ⟨p1, p2.trans e3, xs, e3 Dl _ p3, ?_⟩
    rw [givenC_no hf]
    exact p4.up e3
theorem en_lcR1 {ta : TA} {j : Nat} {vs : List Nat} {n : Int} (f : Nat → Bool) (g : Nat → Cel) (h : EvA ta σ H [.int n]) (hn : 0 ≤ n ∧ n ≤ 40000) (hw : ∀ x, wipe ((wipe σ vs).set j (some x)) vs = wipe σ vs)
    (ht : ∀ (i : Nat) H1, Ex H H1 → (i : Int) < n → EvT t ((wipe σ vs).set j (some (.int (i : Int)))) H1 (f i)) (he : ∀ (i : Nat) H1, Ex H H1 → (i : Int) < n → f i = true → EvC K te ((wipe σ vs).set j (some (.int (i : Int)))) H1 (g i)) :
    EvN K (tLc (iRng1 ta) (gName j) t te vs) σ H (givenC n.toNat f g) := fun H0 e Q q => h H0 e _ fun H1 e1 => ⟨n, rfl, by omega, by omega, fun Dl hD =>
  lc_range (lo := 0) (n := n.toNat) (Cv K H1 f g Dl) ⟨hD, Ex.new hD, [], upd_same, .nil⟩ (fun i H' hi p => by
    have e0 : (0 : Int) + (i : Int) = (i : Int) := Int.zero_add _
    show wipe ((wipe σ vs).set j (some (.int ((0 : Int) + (i : Int))))) vs = wipe σ vs ∧ t ((wipe σ vs).set j (some (.int ((0 : Int) + (i : Int))))) H' fun b H3 => if b = true then te ((wipe σ vs).set j (some (.int ((0 : Int) + (i : Int))))) H3 fun y H4 => ∃ acc, H4 Dl = some (.lst acc) ∧ acc.length < sizeLine ∧ Cv K H1 f g Dl (i + 1) (upd H4 Dl (.lst (acc ++ [y]))) else Cv K H1 f g Dl (i + 1) H3
    rw [e0]
    exact ⟨hw _, cv_turn p (by omega) (ht i H1 (e.trans e1) (by omega)) (fun hf => he i H1 (e.trans e1) (by omega) hf)⟩) (fun H' p => by
      obtain ⟨p1, p2, xs, p3, p4⟩ := p
      exact q Dl xs H' (fresh_back e1 p1) (e1.trans p2) p3 p4)⟩
/-- over a list of cells that stands; the target one name -/
theorem en_lcL {a : Addr} {xs : List V} {cs : List Cel} {j : Nat} {vs : List Nat} (f : Nat → Bool) (g : Nat → Cel) (h : Ev tl σ H (.ref a)) (hx : SqL K H a xs) (hc : IsAll K H xs cs) (hz : cs.length ≤ 40000) (hw : ∀ x, wipe ((wipe σ vs).set j (some x)) vs = wipe σ vs)
    (ht : ∀ (i : Nat) (x : V) (c : Cel) H1, Ex H H1 → cs[i]? = some c → Is K H1 x c → EvT t ((wipe σ vs).set j (some x)) H1 (f i)) (he : ∀ (i : Nat) (x : V) (c : Cel) H1, Ex H H1 → cs[i]? = some c → Is K H1 x c → f i = true → EvC K te ((wipe σ vs).set j (some x)) H1 (g i)) :
    EvN K (tLc (iList K tl) (gName j) t te vs) σ H (givenC cs.length f g) := fun H0 e Q q => h H0 e _ fun H1 e1 => ⟨a, rfl, ⟨xs, ex_l (e.trans e1) hx⟩, fun Dl hD =>
  lc_list (xs := xs) (Cv K H1 f g Dl) ⟨hD, Ex.new hD, [], upd_same, .nil⟩ (fun i H' _ p => ex_l ((e.trans e1).trans p.2.1) hx) (fun i x H' hi p => by
    obtain ⟨c, hci, hic⟩ := pr_get hc hi
    exact ⟨hw x, cv_turn p (by have := (List.getElem?_eq_some_iff.mp hci).1; omega) (ht i x c H1 (e.trans e1) hci (hic.up (e.trans e1))) (fun hf => he i x c H1 (e.trans e1) hci (hic.up (e.trans e1)) hf)⟩)
    (fun H' p => by
      obtain ⟨p1, p2, ys, p3, p4⟩ := p
      rw [pr_len hc] at p4
      exact q Dl ys H' (fresh_back e1 p1) (e1.trans p2) p3 p4)⟩
/-- over a new list of cells -/
theorem en_lcN {cs : List Cel} {j : Nat} {vs : List Nat} (f : Nat → Bool) (g : Nat → Cel) (h : EvN K tl σ H cs) (hz : cs.length ≤ 40000) (hw : ∀ x, wipe ((wipe σ vs).set j (some x)) vs = wipe σ vs)
    (ht : ∀ (i : Nat) (x : V) (c : Cel) H1, Ex H H1 → cs[i]? = some c → Is K H1 x c → EvT t ((wipe σ vs).set j (some x)) H1 (f i)) (he : ∀ (i : Nat) (x : V) (c : Cel) H1, Ex H H1 → cs[i]? = some c → Is K H1 x c → f i = true → EvC K te ((wipe σ vs).set j (some x)) H1 (g i)) :
    EvN K (tLc (iList K tl) (gName j) t te vs) σ H (givenC cs.length f g) := fun H0 e Q q => h H0 e _ fun a xs H1 ha e1 hx hc => ⟨a, rfl, ⟨xs, sq_of hx⟩, fun Dl hD =>
  lc_list (xs := xs) (Cv K H1 f g Dl) ⟨hD, Ex.new hD, [], upd_same, .nil⟩ (fun i H' _ p => sq_of (p.2.1 a _ hx)) (fun i x H' hi p => by
    obtain ⟨c, hci, hic⟩ := pr_get hc hi
    exact ⟨hw x, cv_turn p (by have := (List.getElem?_eq_some_iff.mp hci).1; omega) (ht i x c H1 (e.trans e1) hci hic) (fun hf => he i x c H1 (e.trans e1) hci hic hf)⟩)
    (fun H' p => by
      obtain ⟨p1, p2, ys, p3, p4⟩ := p
      rw [pr_len hc] at p4
      exact q Dl ys H' (fresh_back e1 p1) (e1.trans p2) p3 p4)⟩
/-- which are kept, by the cells themselves -/
theorem givenC_filter (cs : List Cel) (F : Cel → Bool) (d : Cel) : givenC cs.length (fun i => F (cs.getD i d)) (fun i => cs.getD i d) = cs.filter F := by
  unfold givenC
  have e : cs = (List.range cs.length).map fun i => cs.getD i d := by
    apply List.ext_getElem
    · simp
    · intro i h1 h2
      simp [List.getD_eq_getElem?_getD, List.getElem?_eq_getElem h1]
  conv => rhs; rw [e]
  rw [List.filter_map]
  rfl
theorem ev_lenN' {cs : List Cel} (ha : EvN K ta σ H cs) : Ev (tCB (rLenS K) (tCons ta tNil)) σ H (.int (cs.length : Nat)) := fun H1 e Q q =>
  ha H1 e _ fun p xs H2 _ e2 h2 i2 => ⟨p, xs, rfl, Or.inl (sq_of h2), by rw [pr_len i2]; exact q H2 e2⟩
/-- item of a list of cells that stands, of a new one -/
theorem ec_ixN {cs : List Cel} {i : Nat} (h : EvN K ta σ H cs) (hb : ∀ H1, Ex H H1 → Ev tb σ H1 (.int (i : Nat))) (hi : cs[i]? = some c) : EvC K (tOp (rIxL K) ta tb) σ H c := fun H1 e Q q =>
  h H1 e _ fun p xs H2 _ e2 h2 i2 => by
    obtain ⟨x, hx, ix⟩ := pr_get' i2 hi
    exact hb H2 (e.trans e2) H2 (Ex.refl H2) _ fun H3 e3 => ⟨p, xs, (i : Nat), x, rfl, rfl, sq_of (e3 _ _ h2), atI_nat hx, q x H3 (e2.trans e3) (ix.up e3)⟩
theorem ec_ixL {a : Addr} {xs : List V} {cs : List Cel} {i : Nat} (ha : Ev ta σ H (.ref a)) (hs : SqL K H a xs) (hc : IsAll K H xs cs) (hb : Ev tb σ H (.int (i : Nat))) (hi : cs[i]? = some c) : EvC K (tOp (rIxL K) ta tb) σ H c := fun H1 e Q q =>
  ha H1 e _ fun H2 e2 => hb H2 (e.trans e2) _ fun H3 e3 => by
    obtain ⟨x, hx, ix⟩ := pr_get' hc hi
    exact ⟨a, xs, (i : Nat), x, rfl, rfl, ex_l ((e.trans e2).trans e3) hs, atI_nat hx, q x H3 (e2.trans e3) (ix.up ((e.trans e2).trans e3))⟩
/-! statements -/
variable {D : Ends} {tz : TS}
theorem q_asgC {i : Nat} (h : EvC K te σ H c) (k : ∀ v H1, Ex H H1 → Is K H1 v c → tz D (σ.set i (some v)) H1) : tSeq (tAsg te (gName i)) tz D σ H := h H (Ex.refl H) _ k
theorem q_asgN {i : Nat} {cs : List Cel} (h : EvN K te σ H cs) (k : ∀ p xs H1, H p = none → Ex H H1 → H1 p = some (.lst xs) → IsAll K H1 xs cs → tz D (σ.set i (some (.ref p))) H1) : tSeq (tAsg te (gName i)) tz D σ H := h H (Ex.refl H) _ k
theorem s_asgC {i : Nat} (h : EvC K te σ H c) (k : ∀ v H1, Ex H H1 → Is K H1 v c → D.nx (σ.set i (some v)) H1) : tAsg te (gName i) D σ H := h H (Ex.refl H) _ k
theorem s_asgN {i : Nat} {cs : List Cel} (h : EvN K te σ H cs) (k : ∀ p xs H1, H p = none → Ex H H1 → H1 p = some (.lst xs) → IsAll K H1 xs cs → D.nx (σ.set i (some (.ref p))) H1) : tAsg te (gName i) D σ H := h H (Ex.refl H) _ k
theorem s_retC (h : EvC K te σ H c) (k : ∀ v H1, Ex H H1 → Is K H1 v c → D.rt v H1) : tRet te D σ H := h H (Ex.refl H) _ k
theorem s_retN {cs : List Cel} (h : EvN K te σ H cs) (k : ∀ p xs H1, H p = none → Ex H H1 → H1 p = some (.lst xs) → IsAll K H1 xs cs → D.rt (.ref p) H1) : tRet te D σ H := h H (Ex.refl H) _ k
/-! ### alike cells -/
theorem al_tup {xs : List V} {v u : V} {n : Nat} (hv : Is K H v (.t xs)) (hu : Is K H u (.t xs)) (hx : xs.all sc1 = true) (hl : xs.length ≤ 40000) : Al K H (n + 1) v u := by
  obtain ⟨a, rfl, ha⟩ := hv
  obtain ⟨b, rfl, hb⟩ := hu
  refine .inr ⟨a, b, xs, xs, rfl, rfl, .inr ⟨ha, hb⟩, rfl, hl, fun i x y h1 h2 => ?_⟩
  rw [h1] at h2
  cases h2
  exact al_sc (List.all_eq_true.mp hx x (List.mem_of_getElem? h1))
/-- an argument that is a cell -/
theorem ev_callC1 {sp : Sp} {E : XK} (ha : EvC K ta σ H c) (hs : ∀ v H1, Ex H H1 → Is K H1 v c → SpV sp [v] H1 z) : Ev (tCall sp [] E (tCons ta tNil)) σ H z := fun H1 e Q q =>
  ha H1 e _ fun v H2 e2 i => hs v H2 (e.trans e2) i H2 (Ex.refl H2) Q (fun H3 e3 => q H3 (e2.trans e3)) E
theorem ev_callC2 {sp : Sp} {E : XK} {c' : Cel} (ha : EvC K ta σ H c) (hb : ∀ H1, Ex H H1 → EvC K tb σ H1 c') (hs : ∀ v w H1, Ex H H1 → Is K H1 v c → Is K H1 w c' → SpV sp [v, w] H1 z) : Ev (tCall sp [] E (tCons ta (tCons tb tNil))) σ H z := fun H1 e Q q =>
  ha H1 e _ fun v H2 e2 i => hb H2 (e.trans e2) H2 (Ex.refl H2) _ fun w H3 e3 j => hs v w H3 ((e.trans e2).trans e3) (i.up e3) j H3 (Ex.refl H3) Q (fun H4 e4 => q H4 ((e2.trans e3).trans e4)) E
/-! ### cells as data -/
def datV : V → PyData
  | .non => .none
  | .bl b => .bool b
  | .int i => .int i
  | .str x => .str x
  | _ => .none
def okV : V → Bool
  | .non => true
  | .bl _ => true
  | .int _ => true
  | .str x => PyData.strOk x
  | _ => false
def datC : Cel → PyData
  | .v x => datV x
  | .t xs => .tuple (xs.map datV)
def okC : Cel → Bool
  | .v x => okV x
  | .t xs => xs.all okV
theorem dp_v (h : okV x = true) : Dp K H x (datV x) := by
  cases x <;> first | exact .non | exact .bl _ | exact .int _ | exact .str _ | cases h
theorem dp_vs : ∀ {xs : List V}, xs.all okV = true → DpAll K H xs (xs.map datV)
  | [], _ => .nil
  | x :: xs, h => by
    rw [List.all_cons, Bool.and_eq_true] at h
    exact .cons (dp_v h.1) (dp_vs h.2)
theorem dp_c (h : Is K H v c) (ok : okC c = true) : Dp K H v (datC c) := by
  cases c with
  | v x =>
    have e : v = x := h
    rw [e]
    exact dp_v ok
  | t xs =>
    obtain ⟨a, rfl, hs⟩ := h
    exact .tup hs (dp_vs ok)
theorem dp_cs : ∀ {xs : List V} {cs : List Cel}, IsAll K H xs cs → cs.all okC = true → DpAll K H xs (cs.map datC)
  | _, [], h, _ => by cases h; exact .nil
  | _, c :: cs, h, ok => by
    cases h with
    | cons r t =>
      rw [List.all_cons, Bool.and_eq_true] at ok
      exact .cons (dp_c r ok.1) (dp_cs t ok.2)
theorem lay_v (h : okV x = true) : (datV x).canLay0 = true ∧ (datV x).depth = 0 := by
  cases x <;> first | exact ⟨rfl, rfl⟩ | exact ⟨h, rfl⟩ | cases h
theorem lay_vs : ∀ {xs : List V}, xs.all okV = true → PyData.canLayAll0 (xs.map datV) = true ∧ PyData.depthAll (xs.map datV) = 0
  | [], _ => ⟨rfl, rfl⟩
  | x :: xs, h => by
    rw [List.all_cons, Bool.and_eq_true] at h
    obtain ⟨a1, a2⟩ := lay_v h.1
    obtain ⟨b1, b2⟩ := lay_vs h.2
    rw [List.map_cons]
    constructor
    · show (PyData.canLay0 (datV x) && PyData.canLayAll0 (xs.map datV)) = true
      rw [a1, b1]
      rfl
    · show max (PyData.depth (datV x)) (PyData.depthAll (xs.map datV)) = 0
      rw [a2, b2]
      rfl
theorem lay_c (h : okC c = true) : (datC c).canLay0 = true ∧ (datC c).depth ≤ 1 := by
  cases c with
  | v x =>
    obtain ⟨a1, a2⟩ := lay_v h
    exact ⟨a1, by show (datV x).depth ≤ 1; rw [a2]; omega⟩
  | t xs =>
    obtain ⟨a1, a2⟩ := lay_vs h
    exact ⟨a1, by show PyData.depthAll (xs.map datV) + 1 ≤ 1; rw [a2]; omega⟩
theorem lay_cs : ∀ {cs : List Cel}, cs.all okC = true → PyData.canLayAll0 (cs.map datC) = true ∧ PyData.depthAll (cs.map datC) ≤ 1
  | [], _ => ⟨rfl, by show 0 ≤ 1; omega⟩
  | c :: cs, h => by
    rw [List.all_cons, Bool.and_eq_true] at h
    obtain ⟨a1, a2⟩ := lay_c h.1
    obtain ⟨b1, b2⟩ := lay_cs h.2
    rw [List.map_cons]
    constructor
    · show (PyData.canLay0 (datC c) && PyData.canLayAll0 (cs.map datC)) = true
      rw [a1, b1]
      rfl
    · show max (PyData.depth (datC c)) (PyData.depthAll (cs.map datC)) ≤ 1
      omega
theorem shaped_cs {cs : List Cel} (h : cs.all okC = true) : SeqAt.shaped (.list (cs.map datC)) = true := by
  obtain ⟨b1, b2⟩ := lay_cs h
  unfold SeqAt.shaped
  rw [Bool.and_eq_true]
  refine ⟨b1, decide_eq_true ?_⟩
  show PyData.depthAll (cs.map datC) + 1 ≤ 64
  omega
theorem eqv_nil (cs : List Cel) : PyData.eqv (.list (cs.map datC)) (.list []) = cs.isEmpty := by
  cases cs with
  | nil => rfl
  | cons c cs => rfl
theorem ev_nilN {cs : List Cel} (ha : EvN K ta σ H cs) (ok : cs.all okC = true) : Ev (tOp (rEqD K) ta (tLst tNil)) σ H (.bl cs.isEmpty) := fun H1 e Q q =>
  ha H1 e _ fun p xs H2 _ e2 h2 i2 => ⟨Nat.zero_le _, fun l hl => ⟨_, _, .lst (sq_of (by rw [upd_ne (ne_of_none h2 hl)]; exact h2)) (dp_cs (i2.up (Ex.new hl)) ok), .lst (sq_of upd_same) .nil, shaped_cs ok, rfl, by
    rw [eqv_nil]
    exact q _ (e2.trans (Ex.new hl))⟩⟩
theorem ev_nnilN {cs : List Cel} (ha : EvN K ta σ H cs) (ok : cs.all okC = true) : Ev (tOp (rNeD K) ta (tLst tNil)) σ H (.bl (!cs.isEmpty)) := fun H1 e Q q =>
  ha H1 e _ fun p xs H2 _ e2 h2 i2 => ⟨Nat.zero_le _, fun l hl => ⟨_, _, .lst (sq_of (by rw [upd_ne (ne_of_none h2 hl)]; exact h2)) (dp_cs (i2.up (Ex.new hl)) ok), .lst (sq_of upd_same) .nil, shaped_cs ok, rfl, by
    rw [eqv_nil]
    exact q _ (e2.trans (Ex.new hl))⟩⟩
theorem ev_nilL {a : Addr} {xs : List V} {cs : List Cel} (ha : Ev ta σ H (.ref a)) (hs : SqL K H a xs) (hc : IsAll K H xs cs) (ok : cs.all okC = true) : Ev (tOp (rEqD K) ta (tLst tNil)) σ H (.bl cs.isEmpty) := fun H1 e Q q =>
  ha H1 e _ fun H2 e2 => ⟨Nat.zero_le _, fun l hl => ⟨_, _, .lst (ex_l ((e.trans e2).trans (Ex.new hl)) hs) (dp_cs (hc.up ((e.trans e2).trans (Ex.new hl))) ok), .lst (sq_of upd_same) .nil, shaped_cs ok, rfl, by
    rw [eqv_nil]
    exact q _ (e2.trans (Ex.new hl))⟩⟩
theorem ev_nnilL {a : Addr} {xs : List V} {cs : List Cel} (ha : Ev ta σ H (.ref a)) (hs : SqL K H a xs) (hc : IsAll K H xs cs) (ok : cs.all okC = true) : Ev (tOp (rNeD K) ta (tLst tNil)) σ H (.bl (!cs.isEmpty)) := fun H1 e Q q =>
  ha H1 e _ fun H2 e2 => ⟨Nat.zero_le _, fun l hl => ⟨_, _, .lst (ex_l ((e.trans e2).trans (Ex.new hl)) hs) (dp_cs (hc.up ((e.trans e2).trans (Ex.new hl))) ok), .lst (sq_of upd_same) .nil, shaped_cs ok, rfl, by
    rw [eqv_nil]
    exact q _ (e2.trans (Ex.new hl))⟩⟩
theorem txt_ok (p : List Bool) : PyData.strOk (txt p) = true := by
  show ((p.map sg).toArray).all (· < 0x110000) = true
  rw [List.all_toArray, List.all_eq_true]
  intro c hc
  obtain ⟨b, _, rfl⟩ := List.mem_map.mp hc
  cases b <;> decide
/-- max of a new list of whole numbers -/
theorem ev_maxN {ns : List Int} {m : Int} (ha : EvL ta σ H (ns.map V.int)) (hm : m ∈ ns) (hle : ∀ y ∈ ns, y ≤ m) : Ev (tCB (rMax K) (tCons ta tNil)) σ H (.int m) :=
  ev_cbL ha fun p H1 h1 e1 H2 e2 Q q => ⟨p, ns, rfl, sq_of (e2 _ _ h1), List.length_pos_of_mem hm, fun m' h1' h2' => by
    have : m' = m := Int.le_antisymm (hle _ h1') (h2' _ hm)
    rw [this]
    exact q H2 (Ex.refl H2)⟩
end
def cRow (r : Row) : Cel := .t [oV r.1, .int (r.2.1 : Nat), .int (r.2.2 : Nat)]
theorem cRow_ok (r : Row) : okC (cRow r) = true := by
  obtain ⟨o, a, b⟩ := r
  cases o <;> rfl
def spWorst (K : PySem.W.Frag) : Sp := fun vs H Q _ => ∃ (p q : List Bool) (l : Bool), vs = [.str (txt p), .str (txt q), .bl l] ∧ (0 < p.length ∧ p.length ≤ 100) ∧ (0 < q.length ∧ q.length ≤ 100) ∧ RetC K (cRow (worst p q l)) H Q
end Bm
namespace Bm
open PySem PySem.Spec PyProof.Rows L2 Evl
/-! ### held against each other -/
abbrev R3 := Nat × Nat × Option Nat
def r0 : R3 := (0, 1, none)
def bett (a b : R3) : Bool := decide (a.1 * b.2.1 ≤ b.1 * a.2.1) && (decide (a.2.2.getD 0 ≤ b.2.2.getD 0) && (decide (a.1 * b.2.1 < b.1 * a.2.1) || decide (a.2.2.getD 0 < b.2.2.getD 0)))
def sure (rs : List R3) : List Nat := (List.range rs.length).filter fun k => (rs.getD k r0).2.2.isSome
def frontL (rs : List R3) : List Nat := (sure rs).filter fun k => ((sure rs).filter fun j => bett (rs.getD j r0) (rs.getD k r0)).isEmpty
theorem bett_iff (a b : R3) : bett a b = true ↔ a.1 * b.2.1 ≤ b.1 * a.2.1 ∧ a.2.2.getD 0 ≤ b.2.2.getD 0 ∧ (a.1 * b.2.1 < b.1 * a.2.1 ∨ a.2.2.getD 0 < b.2.2.getD 0) := by
  unfold bett
  simp only [Bool.and_eq_true, Bool.or_eq_true, decide_eq_true_eq]
theorem bett_irr (a : R3) : bett a a = false := by
  cases h : bett a a with
  | false => rfl
  | true =>
    obtain ⟨_, _, h3⟩ := (bett_iff a a).mp h
    omega
theorem bett_trans {a b c : R3} (ha : 0 < a.2.1) (hb : 0 < b.2.1) (hc : 0 < c.2.1) (h1 : bett a b = true) (h2 : bett b c = true) : bett a c = true := by
  obtain ⟨a1, n, w1⟩ := a
  obtain ⟨a2, m, w2⟩ := b
  obtain ⟨a3, k, w3⟩ := c
  obtain ⟨p1, p2, p3⟩ := (bett_iff _ _).mp h1
  obtain ⟨q1, q2, q3⟩ := (bett_iff _ _).mp h2
  dsimp only at *
  have e1 : a1 * m * k ≤ a2 * n * k := Nat.mul_le_mul_right k p1
  have e2 : a2 * k * n ≤ a3 * m * n := Nat.mul_le_mul_right n q1
  have c1 : a1 * m * k = (a1 * k) * m := by rw [Nat.mul_assoc, Nat.mul_comm m k, ← Nat.mul_assoc]
  have c2 : a2 * n * k = a2 * k * n := by rw [Nat.mul_assoc, Nat.mul_comm n k, ← Nat.mul_assoc]
  have c3 : a3 * m * n = (a3 * n) * m := by rw [Nat.mul_assoc, Nat.mul_comm m n, ← Nat.mul_assoc]
  have e3 : (a1 * k) * m ≤ (a3 * n) * m := by omega
  refine (bett_iff _ _).mpr ⟨Nat.le_of_mul_le_mul_right e3 hb, (by show w1.getD 0 ≤ w3.getD 0; omega), ?_⟩
  dsimp only
  rcases p3 with p3 | p3
  · left
    have : a1 * m * k < a2 * n * k := Nat.mul_lt_mul_of_pos_right p3 hc
    have e4 : (a1 * k) * m < (a3 * n) * m := by omega
    exact Nat.lt_of_mul_lt_mul_right e4
  · right
    omega
theorem mem_sure {rs : List R3} {k : Nat} : k ∈ sure rs ↔ k < rs.length ∧ (rs.getD k r0).2.2.isSome = true := by
  unfold sure
  rw [List.mem_filter, List.mem_range]
theorem filter_lt {α : Type} {l : List α} {f g : α → Bool} (h : ∀ x ∈ l, f x = true → g x = true) {x : α} (hx : x ∈ l) (h1 : f x = false) (h2 : g x = true) : (l.filter f).length < (l.filter g).length := by
  induction l with
  | nil => cases hx
  | cons a l ih =>
    have hle : (l.filter f).length ≤ (l.filter g).length := by
      clear ih hx
      induction l with
      | nil => exact Nat.le_refl _
      | cons b l ih2 =>
        have := ih2 (fun x hx => h x (by rcases List.mem_cons.mp hx with rfl | hx <;> simp [*]))
        have hb := h b (by simp)
        rw [List.filter_cons, List.filter_cons]
        by_cases c : f b = true
        · rw [if_pos c, if_pos (hb c)]
          simp
          exact this
        · rw [if_neg c]
          split
          · simp
            omega
          · exact this
    rw [List.filter_cons, List.filter_cons]
    rcases List.mem_cons.mp hx with rfl | hx
    · rw [if_neg (by rw [h1]; decide), if_pos h2]
      simp
      omega
    · have := ih (fun x hx => h x (List.mem_cons_of_mem _ hx)) hx
      by_cases c : f a = true
      · rw [if_pos c, if_pos (h a (by simp) c)]
        simp
        exact this
      · rw [if_neg c]
        split
        · simp
          omega
        · exact this
/-- of each other sure one a told one is better -/
theorem front_dom {rs : List R3} (hpos : ∀ k, k < rs.length → 0 < (rs.getD k r0).2.1) : ∀ (n k : Nat), ((sure rs).filter fun j => bett (rs.getD j r0) (rs.getD k r0)).length ≤ n → k ∈ sure rs → k ∉ frontL rs → ∃ j ∈ frontL rs, bett (rs.getD j r0) (rs.getD k r0) = true
  | 0, k, hn, hk, hf => by
    refine absurd (List.mem_filter.mpr ⟨hk, ?_⟩) hf
    have : ((sure rs).filter fun j => bett (rs.getD j r0) (rs.getD k r0)) = [] := List.eq_nil_of_length_eq_zero (by omega)
    rw [this]
    rfl
  | n + 1, k, hn, hk, hf => by
    cases e : (sure rs).filter fun j => bett (rs.getD j r0) (rs.getD k r0) with
    | nil =>
      refine absurd (List.mem_filter.mpr ⟨hk, ?_⟩) hf
      rw [e]
      rfl
    | cons j js =>
      have hj : j ∈ (sure rs).filter fun j => bett (rs.getD j r0) (rs.getD k r0) := by rw [e]; simp
      obtain ⟨hj1, hj2⟩ := List.mem_filter.mp hj
      by_cases hjf : j ∈ frontL rs
      · exact ⟨j, hjf, hj2⟩
      · have pj := hpos j (mem_sure.mp hj1).1
        have pk := hpos k (mem_sure.mp hk).1
        have hlt := filter_lt (l := sure rs) (f := fun i => bett (rs.getD i r0) (rs.getD j r0)) (g := fun i => bett (rs.getD i r0) (rs.getD k r0)) (fun i hi h => bett_trans (hpos i (mem_sure.mp hi).1) pj pk h hj2) hj1 (bett_irr _) hj2
        obtain ⟨i, hi, hib⟩ := front_dom hpos n j (by omega) hj1 hjf
        exact ⟨i, hi, bett_trans (hpos i (mem_sure.mp (List.mem_filter.mp hi).1).1) pj pk hib hj2⟩
def cR (r : R3) : Cel := .t [.int (r.1 : Nat), .int (r.2.1 : Nat), oV r.2.2]
def rowOf (p : List Bool) : R3 := ((onesV p).length, p.length, (worst p p false).1)
def natsV (ks : List Nat) : List V := ks.map fun k => V.int (k : Nat)
def spBetter (K : PySem.W.Frag) : Sp := fun vs H Q _ => ∃ (v u : V) (r s : R3), vs = [v, u] ∧ Is K H v (cR r) ∧ Is K H u (cR s) ∧ (r.2.2.isSome = true ∧ s.2.2.isSome = true) ∧ (r.1 ≤ 1000 ∧ s.1 ≤ 1000) ∧ RetV (.bl (bett r s)) H Q
theorem oV_get {o : Option Nat} (h : o.isSome = true) : oV o = .int (o.getD 0 : Nat) := by
  cases o with
  | none => cases h
  | some m => rfl
section
variable {K : PySem.W.Frag} {σ : L2.St} {H : Hp} {ta tb te tl : TE} {c : Cel} {D : Ends} {tz : TS}
theorem q_appC {l : Addr} {xs : List V} (hl : H l = some (.lst xs)) (ha : Ev ta σ H (.ref l)) (h : EvC K te σ H c) (hz : xs.length < 100000) (k : ∀ v H1, Ex H H1 → Is K H1 v c → tz D σ (upd H1 l (.lst (xs ++ [v])))) :
    tSeq (tDrop (tBM K "list" rAppend ta (tCons te tNil))) tz D σ H := ha H (Ex.refl H) _ fun H1 e1 =>
  ⟨Or.inl ⟨rfl, xs, sq_of (e1 l _ hl)⟩, h H1 e1 _ fun v H2 e2 i2 => ⟨l, xs, v, rfl, rfl, e2 l _ (e1 l _ hl), sz_lt hz, k v H2 (e1.trans e2) i2⟩⟩
theorem s_appC {l : Addr} {xs : List V} (hl : H l = some (.lst xs)) (ha : Ev ta σ H (.ref l)) (h : EvC K te σ H c) (hz : xs.length < 100000) (k : ∀ v H1, Ex H H1 → Is K H1 v c → D.nx σ (upd H1 l (.lst (xs ++ [v])))) :
    tDrop (tBM K "list" rAppend ta (tCons te tNil)) D σ H := ha H (Ex.refl H) _ fun H1 e1 =>
  ⟨Or.inl ⟨rfl, xs, sq_of (e1 l _ hl)⟩, h H1 e1 _ fun v H2 e2 i2 => ⟨l, xs, v, rfl, rfl, e2 l _ (e1 l _ hl), sz_lt hz, k v H2 (e1.trans e2) i2⟩⟩
/-- a new list, of cells, that may stand elsewhere too -/
theorem s_forEL {ta : TA} {a : Addr} {xs : List V} {g : TG} {tu : TS} (h : EvA ta σ H [.ref a]) (hx : SqL K H a xs) (Pv : Nat → L2.St → Hp → Prop) (h0 : ∀ H1, Ex H H1 → Pv 0 σ H1) (hG : ∀ i σ' H', i ≤ xs.length → Pv i σ' H' → SqL K H' a xs)
    (hs : ∀ i T x σ' H', xs[i]? = some x → Pv i σ' H' → H' T = none → g (.ref T) σ' (upd H' T (.tup [.int (i : Nat), x])) fun σ2 H2 => tu { D with nx := Pv (i + 1), ct := Pv (i + 1), bk := D.nx } σ2 H2)
    (hd : ∀ σ' H', Pv xs.length σ' H' → D.nx σ' H') : tFor (iEnum K ta) g tu D σ H :=
  h H (Ex.refl H) _ fun H1 e => ⟨a, xs, rfl, ex_l e hx, for_it (walk_enum (xs := xs)) Pv (h0 H1 e) hG (fun i v σ' H' H2 _ p y => by
    obtain ⟨T, x, z, rfl, hT, rfl, hx1, hx2⟩ := y
    cases hx1
    exact hs i T z σ' H' hx2 p hT) hd⟩
/-- list(xs) -/
theorem en_listL {a : Addr} {xs : List V} {cs : List Cel} (ha : Ev ta σ H (.ref a)) (hs : SqL K H a xs) (hi : IsAll K H xs cs) : EvN K (tCB (rListS K) (tCons ta tNil)) σ H cs := fun H1 e Q q =>
  ha H1 e _ fun H2 e2 => ⟨a, xs, rfl, Or.inl (ex_l (e.trans e2) hs), fun l hl => q l xs _ (fresh_back e2 hl) (e2.trans (Ex.new hl)) upd_same ((hi.up (e.trans e2)).up (Ex.new hl))⟩
/-- two lists of the same cells -/
theorem al_list {cs : List Cel} {a b : Addr} {xs ys : List V} {n : Nat} (ha : SqL K H a xs) (hx : IsAll K H xs cs) (hb : SqL K H b ys) (hy : IsAll K H ys cs) (hl : cs.length ≤ 40000) (hc : ∀ c ∈ cs, ∀ x y, Is K H x c → Is K H y c → Al K H n x y) : Al K H (n + 1) (.ref a) (.ref b) := by
  refine .inr ⟨a, b, xs, ys, rfl, rfl, .inl ⟨ha, hb⟩, by rw [pr_len hx, pr_len hy], by rw [pr_len hx]; exact hl, fun i x y h1 h2 => ?_⟩
  obtain ⟨c, c1, c2⟩ := pr_get hx h1
  obtain ⟨c', c3, c4⟩ := pr_get hy h2
  rw [c1] at c3
  cases c3
  exact hc c (List.mem_of_getElem? c1) x y c2 c4
theorem DD.weaken {Da : Addr} {G G' H : Hp} (d : DD Da G' H) (e : Ex G G') (hn : G Da = none) : DD Da G H := ⟨hn, e.trans d.ex, d.at_⟩
end
end Bm
namespace Bm
open PySem PySem.Spec PyProof.Rows L2 Evl
/-! ### typed data -/
theorem toD_inj {α : Type} [DecidableEq α] [PySem.W.Datum α] {a b : α} (h : PySem.W.Datum.toD a = PySem.W.Datum.toD b) : a = b := by
  have e := PySem.W.Datum.eqv a b
  rw [h, PySem.W.Datum.eqv b b, decide_eq_true rfl] at e
  exact of_decide_eq_true e.symm
def cSI (p : PySem.Str × Int) : Cel := .t [.str p.1, .int p.2]
def cIS (p : Int × PySem.Str) : Cel := .t [.int p.1, .str p.2]
section
variable {K : PySem.W.Frag} {H : Hp} {v : V}
theorem dp_SI {p : PySem.Str × Int} (h : Is K H v (cSI p)) : Dp K H v (PySem.W.Datum.toD p) := by
  obtain ⟨a, rfl, hs⟩ := h
  exact .tup hs (.cons (.str _) (.cons (.int _) .nil))
theorem dp_IS {p : Int × PySem.Str} (h : Is K H v (cIS p)) : Dp K H v (PySem.W.Datum.toD p) := by
  obtain ⟨a, rfl, hs⟩ := h
  exact .tup hs (.cons (.int _) (.cons (.str _) .nil))
theorem dpAll_of {α : Type} [DecidableEq α] [PySem.W.Datum α] {c : α → Cel} (hc : ∀ {v : V} {p : α}, Is K H v (c p) → Dp K H v (PySem.W.Datum.toD p)) : ∀ {xs : List V} {ps : List α}, IsAll K H xs (ps.map c) → DpAll K H xs (ps.map PySem.W.Datum.toD)
  | _, [], h => by cases h; exact .nil
  | _, p :: ps, h => by
    cases h with
    | cons r t => exact .cons (hc r) (dpAll_of hc t)
/-- min of a list of (text, number) -/
def rMinSI (K : PySem.W.Frag) : List V → Hp → VK → Prop := fun vs H Q => ∃ (a : Addr) (xs : List V) (x : PySem.Str × Int) (ys : List (PySem.Str × Int)), vs = [.ref a] ∧ SqL K H a xs ∧ IsAll K H xs ((x :: ys).map cSI) ∧ ∀ v, Is K H v (cSI (PySem.W.minOf x ys)) → Q v H
end
theorem cr_minD {X : Cx} {j : Nat} (hc : X.calm = true) (hr : Room j X.A) : CallR X (.builtin "min") (rMinSI X.K) := by
  intro pins s σ H vs us Q I r h
  obtain ⟨a, xs, x, ys, rfl, hs, hi, q⟩ := h
  obtain ⟨its, rv, hl, _⟩ := I.list hs
  rw [Vals.ref1 r]
  obtain ⟨as, ra⟩ := Dp.readsAll I _ xs its (dpAll_of (c := cSI) dp_SI hi) rv
  have hu : X.A.units + 1 + PySem.W.Datum.depth (PySem.Str × Int) < cLine := by
    have := hr.un
    show X.A.units + 1 + 1 < cLine
    omega
  refine PySem.W.min_list_datum (x := x) (xs := ys) (I.ok.hd hc) hl.isList ⟨as, by simpa using ra⟩ hu fun i v h' tk hv hh hk => ?_
  have hv' : its[i]? = some v := by simpa using hv
  have hix : i < xs.length := by
    rw [rv.length]
    exact (List.getElem?_eq_some_iff.mp hv').1
  obtain ⟨u, hu1, hu2⟩ := rv.get (List.getElem?_eq_getElem hix)
  rw [hv'] at hu1
  cases hu1
  obtain ⟨c, hc1, hc2⟩ := pr_get hi (List.getElem?_eq_getElem hix)
  rw [List.getElem?_map] at hc1
  cases e : (x :: ys)[i]? with
  | none => rw [e] at hc1; cases hc1
  | some z =>
    rw [e] at hc1
    cases hc1
    obtain ⟨as1, r1⟩ := Dp.reads I _ xs[i] v (dp_SI hc2) hu2
    obtain ⟨as2, r2⟩ := hh
    have ez := toD_inj (reads_det (h := s.heap) (h' := h') (fun b o e _ => hk b o e) r1 r2).1
    rw [← ez] at hc2
    exact ⟨xs[i], H, I.kept (t' := tk) hk, hu2, q _ hc2⟩
section
variable {K : PySem.W.Frag} {σ : L2.St} {H : Hp} {ta tb : TE}
theorem ec_minN {x : PySem.Str × Int} {ys : List (PySem.Str × Int)} (ha : EvN K ta σ H ((x :: ys).map cSI)) : EvC K (tCB (rMinSI K) (tCons ta tNil)) σ H (cSI (PySem.W.minOf x ys)) := fun H1 e Q q =>
  ha H1 e _ fun p xs H2 hp e2 h2 i2 => ⟨p, xs, x, ys, rfl, sq_of h2, i2, fun v iv => q v H2 e2 iv⟩
end
/-! ### sorted -/
section
variable {α : Type} [DecidableEq α] [PySem.W.DatumOrd α]
def leG (a b : α) : Bool := !PySem.W.DatumOrd.lt b a
def rSortG (c : α → Cel) (K : PySem.W.Frag) : List V → Hp → VK → Prop := fun vs H Q => ∃ (a : Addr) (xs : List V) (ps : List α), vs = [.ref a] ∧ SqL K H a xs ∧ IsAll K H xs (ps.map c) ∧ ps.length ≤ 100000 ∧
  ∀ (p : Addr) (ys : List V), H p = none → IsAll K H ys ((ps.mergeSort leG).map c) → Q (.ref p) (upd H p (.lst ys))
theorem vals_each {c : α → Cel} {K : PySem.W.Frag} {H : Hp} : ∀ {out : List Value} {ps : List α}, PySem.W.EachIs (fun (u : Value) (p : α) => ∃ x, RelV x u ∧ Is K H x (c p)) out ps → ∃ ys, Vals ys out ∧ IsAll K H ys (ps.map c)
  | _, _, .nil => ⟨[], .nil, .nil⟩
  | _, _, .cons ⟨x, h1, h2⟩ t => by
    obtain ⟨ys, a, b⟩ := vals_each t
    exact ⟨x :: ys, .cons h1 a, .cons h2 b⟩
theorem each_of {c : α → Cel} {K : PySem.W.Frag} {H : Hp} : ∀ {xs : List V} {us : List Value} {ps : List α}, Vals xs us → IsAll K H xs (ps.map c) → PySem.W.EachIs (fun (u : Value) (p : α) => ∃ x, RelV x u ∧ Is K H x (c p)) us ps
  | _, _, [], .nil, _ => .nil
  | _, _, _ :: _, .nil, h => by cases h
  | _, _, [], .cons _ _, h => by cases h
  | _, _, p :: ps, .cons r t, h => by
    cases h with
    | cons a b => exact .cons ⟨_, r, a⟩ (each_of t b)
theorem cr_sortedG {X : Cx} {j : Nat} (c : α → Cel) (hcd : ∀ {K : PySem.W.Frag} {H : Hp} {v : V} {p : α}, Is K H v (c p) → Dp K H v (PySem.W.Datum.toD p)) (hk : ∀ ps : List α, PySem.W.Sortable (ps.map PySem.W.Datum.toD)) (hd : PySem.W.Datum.depth α ≤ 1) (hr : Room j X.A) : CallR X (.builtin "sorted") (rSortG c X.K) := by
  intro pins s σ H vs us Q I r h
  obtain ⟨a, xs, ps, rfl, hs, hi, hz, q⟩ := h
  obtain ⟨its, rv, hl, _⟩ := I.list hs
  rw [Vals.ref1 r]
  have e1 := each_of (c := c) rv hi
  have e2 : PySem.W.EachIs (fun v b => ∃ as, Reads s.heap v (PySem.W.Datum.toD b) as) its ps := e1.mono fun u p ⟨x, h1, h2⟩ => Dp.reads I _ x u (hcd h2) h1
  have hle : PySem.W.dataLe false (PySem.W.Datum.toD (α := α)) = leG := by
    rw [PySem.W.dataLe_eq]
    funext a b
    show (!PySem.W.dataLt (PySem.W.Datum.toD b) (PySem.W.Datum.toD a)) = leG a b
    unfold leG
    rw [PySem.W.DatumOrd.lt_eq]
  refine PySem.W.sorted_data (enc := PySem.W.Datum.toD) hl.isList e1 e2 (PySem.W.AllAlike.of fun a b => PySem.W.DatumOrd.alike a b) (hk ps) (sz_of hz) (fun b _ => ?_) fun out ho eo => ?_
  · have := hr.un
    have h1 : (PySem.W.Datum.toD b).depth ≤ _ := PySem.W.Datum.depth_le b
    omega
  · rw [hle] at eo
    obtain ⟨ys, hy1, hy2⟩ := vals_each (K := X.K) (H := H) eo
    obtain ⟨ep, he'⟩ := PyProof.Rows.sortedAll_at s.heap its out.toArray
    have hlen : ys.length ≤ sizeLine := by
      rw [hy1.length, ho]
      exact sz_of hz
    exact ⟨.ref _, upd H (s.heap.objs.size + 1) (.lst ys), I.laid (t' := s.toks) (fun _ _ => PyProof.Rows.sortedAll_old) (Nat.le_succ _) ⟨hlen, out, ep, hy1, he'⟩, rfl, q _ ys (I.hok.fresh (Nat.le_succ _)) hy2⟩
theorem en_sortN {c : α → Cel} {K : PySem.W.Frag} {σ : L2.St} {H : Hp} {ta : TE} {ps : List α} (ha : EvN K ta σ H (ps.map c)) (hz : ps.length ≤ 100000) : EvN K (tCB (rSortG c K) (tCons ta tNil)) σ H ((ps.mergeSort leG).map c) := fun H1 e Q q =>
  ha H1 e _ fun p xs H2 hp e2 h2 i2 => ⟨p, xs, ps, rfl, sq_of h2, i2, hz, fun l ys hl iy => q l ys _ (fresh_back e2 hl) (e2.trans (Ex.new hl)) upd_same (iy.up (Ex.new hl))⟩
theorem en_sortL {c : α → Cel} {K : PySem.W.Frag} {σ : L2.St} {H : Hp} {ta : TE} {ps : List α} {a : Addr} {xs : List V} (ha : Ev ta σ H (.ref a)) (hs : SqL K H a xs) (hi : IsAll K H xs (ps.map c)) (hz : ps.length ≤ 100000) : EvN K (tCB (rSortG c K) (tCons ta tNil)) σ H ((ps.mergeSort leG).map c) := fun H1 e Q q =>
  ha H1 e _ fun H2 e2 => ⟨a, xs, ps, rfl, ex_l (e.trans e2) hs, hi.up (e.trans e2), hz, fun l ys hl iy => q l ys _ (fresh_back e2 hl) (e2.trans (Ex.new hl)) upd_same (iy.up (Ex.new hl))⟩
end
def cS (z : PySem.Str) : Cel := .v (.str z)
theorem cr_sortedD {X : Cx} {j : Nat} (hr : Room j X.A) : CallR X (.builtin "sorted") (rSortG cIS X.K) := cr_sortedG cIS dp_IS (fun _ => PySem.W.Sortable.tuples fun _ => ⟨_, _, rfl⟩) (Nat.le_refl _) hr
theorem cr_sortedT {X : Cx} {j : Nat} (hr : Room j X.A) : CallR X (.builtin "sorted") (rSortG cS X.K) :=
  cr_sortedG cS (fun {K H v p} h => by
    have e : v = .str p := h
    rw [e]
    exact .str p) (fun _ => PySem.W.Sortable.others fun b => ⟨(fun h => by cases h), (fun xs h => by cases h)⟩) (Nat.zero_le _) hr
end Bm
namespace Bm
open PySem PySem.Spec PyProof.Rows L2 Evl
/-! ### all patterns of so many beats -/
abbrev ct (t : List Bool) : Nat := t.count true
abbrev cod (t : List Bool) : List Nat := t.map sg
def lists : Nat → List (List Bool)
  | 0 => [[]]
  | k + 1 => (lists k).flatMap fun t => [t ++ [false], t ++ [true]]
theorem snoc_of {t : List Bool} {k : Nat} (h : t.length = k + 1) : ∃ s b, t = s ++ [b] ∧ s.length = k := by
  have hne : t ≠ [] := by
    intro e
    rw [e] at h
    cases h
  refine ⟨t.dropLast, t.getLast hne, (List.dropLast_concat_getLast hne).symm, by rw [List.length_dropLast]; omega⟩
theorem mem_lists : ∀ {k : Nat} {t : List Bool}, t ∈ lists k ↔ t.length = k
  | 0, t => by
    unfold lists
    constructor
    · intro h
      have : t = [] := by simpa using h
      rw [this]
      rfl
    · intro h
      have : t = [] := List.eq_nil_of_length_eq_zero h
      simp [this]
  | k + 1, t => by
    unfold lists
    rw [List.mem_flatMap]
    constructor
    · rintro ⟨s, hs, h⟩
      have hs := mem_lists.mp hs
      have : t = s ++ [false] ∨ t = s ++ [true] := by simpa using h
      rcases this with rfl | rfl <;> simp [hs]
    · intro h
      obtain ⟨s, b, rfl, hs⟩ := snoc_of h
      refine ⟨s, mem_lists.mpr hs, ?_⟩
      cases b <;> simp
theorem app_lt {a b c d : List Nat} (hl : a.length = b.length) (h : a < b) : a ++ c < b ++ d := by
  induction a generalizing b with
  | nil =>
    cases b with
    | nil => exact absurd h (List.lt_irrefl _)
    | cons _ _ => cases hl
  | cons x a ih =>
    cases b with
    | nil => cases hl
    | cons y b =>
      rw [List.cons_append, List.cons_append, List.cons_lt_cons_iff]
      rcases List.cons_lt_cons_iff.mp h with h | ⟨h1, h2⟩
      · exact .inl h
      · exact .inr ⟨h1, ih (by simpa using hl) h2⟩
theorem app_lt2 (a : List Nat) : a ++ [48] < a ++ [49] := by
  induction a with
  | nil => decide
  | cons x a ih => exact List.cons_lt_cons_iff.mpr (.inr ⟨rfl, ih⟩)
theorem lists_pw : ∀ k, (lists k).Pairwise fun a b => cod a < cod b
  | 0 => by
    unfold lists
    simp
  | k + 1 => by
    unfold lists
    rw [List.pairwise_flatMap]
    refine ⟨fun t _ => ?_, ?_⟩
    · simp only [List.pairwise_cons, List.mem_cons, List.not_mem_nil, or_false, forall_eq, List.Pairwise.nil, and_true]
      refine ⟨?_, fun _ h => h.elim⟩
      show (t ++ [false]).map sg < (t ++ [true]).map sg
      rw [List.map_append, List.map_append]
      exact app_lt2 _
    · have ih := lists_pw k
      refine List.Pairwise.imp_of_mem (fun {a b} ha hb hab x hx y hy => ?_) ih
      have ha := mem_lists.mp ha
      have hb := mem_lists.mp hb
      have hx : x = a ++ [false] ∨ x = a ++ [true] := by simpa using hx
      have hy : y = b ++ [false] ∨ y = b ++ [true] := by simpa using hy
      rcases hx with rfl | rfl <;> rcases hy with rfl | rfl <;> (unfold cod; rw [List.map_append, List.map_append]; exact app_lt (by simp [ha, hb]) hab)
def allOf (n m : Nat) : List (List Bool) := (lists n).filter fun t => decide (ct t = m)
def ext (n m k : Nat) (t : List Bool) : Bool := decide (ct t ≤ m ∧ m + k ≤ n + ct t)
def stg (n m k : Nat) : List (List Bool) := (lists k).filter (ext n m k)
def kids (n m k : Nat) (t : List Bool) : List (List Bool) := (if m + k < n + ct t then [t ++ [false]] else []) ++ (if ct t < m then [t ++ [true]] else [])
theorem ct_f (t : List Bool) : ct (t ++ [false]) = ct t := by
  unfold ct
  rw [List.count_append]
  simp
theorem ct_t (t : List Bool) : ct (t ++ [true]) = ct t + 1 := by
  unfold ct
  rw [List.count_append]
  simp
theorem ext_kids (n m k : Nat) (t : List Bool) : [t ++ [false], t ++ [true]].filter (ext n m (k + 1)) = if ext n m k t = true then kids n m k t else [] := by
  have e1 : ext n m (k + 1) (t ++ [false]) = decide (ct t ≤ m ∧ m + (k + 1) ≤ n + ct t) := by unfold ext; rw [ct_f]
  have e2 : ext n m (k + 1) (t ++ [true]) = decide (ct t + 1 ≤ m ∧ m + (k + 1) ≤ n + (ct t + 1)) := by unfold ext; rw [ct_t]
  rw [List.filter_cons, List.filter_cons, e1, e2]
  unfold ext kids
  by_cases h1 : ct t ≤ m <;> by_cases h2 : m + k ≤ n + ct t
  · rw [if_pos (c := decide (ct t ≤ m ∧ m + k ≤ n + ct t) = true) (decide_eq_true ⟨h1, h2⟩)]
    by_cases c1 : m + k < n + ct t <;> by_cases c2 : ct t < m
    · rw [if_pos (by simp; omega), if_pos (by simp; omega), if_pos c1, if_pos c2]
      rfl
    · rw [if_pos (by simp; omega), if_neg (by simp; omega), if_pos c1, if_neg c2]
      rfl
    · rw [if_neg (by simp; omega), if_pos (by simp; omega), if_neg c1, if_pos c2]
      rfl
    · rw [if_neg (by simp; omega), if_neg (by simp; omega), if_neg c1, if_neg c2]
      rfl
  all_goals rw [if_neg (c := decide (ct t ≤ m ∧ m + k ≤ n + ct t) = true) (by simp; omega), if_neg (by simp; omega), if_neg (by simp; omega)]; rfl
theorem flat_filter {α β : Type} (f : α → List β) (g : α → Bool) (h : α → List β) (F : β → Bool) (e : ∀ a, (f a).filter F = if g a = true then h a else []) : ∀ l : List α, (l.flatMap f).filter F = (l.filter g).flatMap h
  | [] => rfl
  | a :: l => by
    rw [List.flatMap_cons, List.filter_append, e a, flat_filter f g h F e l, List.filter_cons]
    by_cases c : g a = true
    · rw [if_pos c, if_pos c, List.flatMap_cons]
    · rw [if_neg c, if_neg c, List.nil_append]
theorem stg_succ (n m k : Nat) : stg n m (k + 1) = (stg n m k).flatMap (kids n m k) := by
  unfold stg
  conv => lhs; unfold lists
  exact flat_filter _ _ _ _ (ext_kids n m k) (lists k)
theorem stg_zero {n m : Nat} (h : m ≤ n) : stg n m 0 = [[]] := by
  unfold stg lists
  rw [List.filter_cons, if_pos (by unfold ext; simp; omega)]
  rfl
theorem stg_end (n m : Nat) : stg n m n = allOf n m := by
  unfold stg allOf
  refine List.filter_congr fun t _ => ?_
  unfold ext
  exact decide_eq_decide.mpr (by omega)
theorem stg_mem {n m k : Nat} {t : List Bool} (h : t ∈ stg n m k) : t.length = k ∧ ct t ≤ m ∧ m + k ≤ n + ct t := by
  obtain ⟨h1, h2⟩ := List.mem_filter.mp h
  exact ⟨mem_lists.mp h1, of_decide_eq_true h2⟩
theorem mem_allOf {n m : Nat} {t : List Bool} : t ∈ allOf n m ↔ t.length = n ∧ ct t = m := by
  unfold allOf
  rw [List.mem_filter, mem_lists, decide_eq_true_eq]
theorem allOf_pw (n m : Nat) : (allOf n m).Pairwise fun a b => cod a < cod b := (lists_pw n).filter _
theorem lists_len : ∀ k, (lists k).length = 2 ^ k
  | 0 => rfl
  | k + 1 => by
    have h : ∀ l : List (List Bool), (l.flatMap fun t => [t ++ [false], t ++ [true]]).length = l.length * 2 := by
      intro l
      induction l with
      | nil => rfl
      | cons a l ih => rw [List.flatMap_cons, List.length_append, ih, List.length_cons]; simp; omega
    unfold lists
    rw [h, lists_len k, Nat.pow_succ]
theorem stg_len {n m k : Nat} (hk : k ≤ 12) : (stg n m k).length ≤ 4096 := by
  unfold stg
  refine Nat.le_trans (List.length_filter_le _ _) ?_
  rw [lists_len]
  exact Nat.le_trans (Nat.pow_le_pow_right (by decide) hk) (by decide)
/-- by how many awake, then as texts -/
abbrev Pn := Nat × List Bool
def allP (n : Nat) : List Pn := (List.range n).flatMap fun i => (allOf n (i + 1)).map fun t => (i + 1, t)
def ltP (a b : Pn) : Prop := a.1 < b.1 ∨ (a.1 = b.1 ∧ cod a.2 < cod b.2)
theorem mem_allP {n : Nat} {x : Pn} : x ∈ allP n ↔ x.2.length = n ∧ ct x.2 = x.1 ∧ 1 ≤ x.1 := by
  unfold allP
  rw [List.mem_flatMap]
  constructor
  · rintro ⟨i, hi, h⟩
    obtain ⟨t, ht, rfl⟩ := List.mem_map.mp h
    obtain ⟨h1, h2⟩ := mem_allOf.mp ht
    exact ⟨h1, h2, by simp⟩
  · rintro ⟨h1, h2, h3⟩
    have hle : ct x.2 ≤ x.2.length := List.count_le_length
    refine ⟨x.1 - 1, List.mem_range.mpr (by omega), List.mem_map.mpr ⟨x.2, mem_allOf.mpr ⟨h1, by omega⟩, ?_⟩⟩
    exact Prod.ext (by show x.1 - 1 + 1 = x.1; omega) rfl
theorem range_pw (n : Nat) : (List.range n).Pairwise fun a b => a < b := List.pairwise_lt_range
theorem allP_pw (n : Nat) : (allP n).Pairwise ltP := by
  unfold allP
  rw [List.pairwise_flatMap]
  refine ⟨fun i _ => ?_, ?_⟩
  · rw [List.pairwise_map]
    exact (allOf_pw n (i + 1)).imp fun h => .inr ⟨rfl, h⟩
  · refine (range_pw n).imp fun {a b} h x hx y hy => ?_
    obtain ⟨t, _, rfl⟩ := List.mem_map.mp hx
    obtain ⟨u, _, rfl⟩ := List.mem_map.mp hy
    exact .inl (by show a + 1 < b + 1; omega)
theorem ltP_irr (a : Pn) : ¬ ltP a a := fun h => by
  rcases h with h | ⟨_, h⟩
  · omega
  · exact List.lt_irrefl _ h
theorem ltP_asym {a b : Pn} (h1 : ltP a b) (h2 : ltP b a) : False := by
  rcases h1 with h1 | ⟨e1, h1⟩ <;> rcases h2 with h2 | ⟨e2, h2⟩
  · omega
  · omega
  · omega
  · exact List.lt_irrefl _ (List.lt_trans h1 h2)
theorem pw_nodup {α : Type} {R : α → α → Prop} (irr : ∀ a, ¬ R a a) {l : List α} (h : l.Pairwise R) : l.Nodup :=
  List.nodup_iff_pairwise_ne.mpr (h.imp (S := fun a b => a ≠ b) fun {a b} r => fun (e : a = b) => irr a (by rw [← e] at r; exact r))
/-- what is found first is ahead of all others of its kind -/
theorem find_first {α : Type} {R : α → α → Prop} (asym : ∀ {a b}, R a b → R b a → False) {l : List α} (h : l.Pairwise R) {f : α → Bool} {x y : α} (hf : l.find? f = some x) (hy : y ∈ l) (hlt : R y x) : f y = false := by
  obtain ⟨_, as, bs, rfl, h3⟩ := List.find?_eq_some_iff_append.mp hf
  rcases List.mem_append.mp hy with hy | hy
  · simpa using h3 y hy
  · exfalso
    rw [List.pairwise_append] at h
    rcases List.mem_cons.mp hy with rfl | hy
    · exact asym hlt hlt
    · exact asym hlt ((List.pairwise_cons.mp h.2.1).1 y hy)
/-! the law's own list, sorted -/
def lists2 : Nat → List (List Bool)
  | 0 => [[]]
  | k + 1 => (lists2 k).map (fun t => t ++ [false]) ++ (lists2 k).map (fun t => t ++ [true])
theorem mem_lists2 : ∀ {k : Nat} {t : List Bool}, t ∈ lists2 k ↔ t.length = k
  | 0, t => by
    unfold lists2
    constructor
    · intro h
      have : t = [] := by simpa using h
      rw [this]
      rfl
    · intro h
      have : t = [] := List.eq_nil_of_length_eq_zero h
      simp [this]
  | k + 1, t => by
    unfold lists2
    rw [List.mem_append, List.mem_map, List.mem_map]
    constructor
    · rintro (⟨s, hs, rfl⟩ | ⟨s, hs, rfl⟩) <;> simp [mem_lists2.mp hs]
    · intro h
      obtain ⟨s, b, rfl, hs⟩ := snoc_of h
      cases b
      · exact .inl ⟨s, mem_lists2.mpr hs, rfl⟩
      · exact .inr ⟨s, mem_lists2.mpr hs, rfl⟩
theorem lists2_nodup : ∀ k, (lists2 k).Nodup
  | 0 => by
    unfold lists2
    simp
  | k + 1 => by
    unfold lists2
    have ih := lists2_nodup k
    have inj : ∀ b : Bool, ((lists2 k).map fun t => t ++ [b]).Nodup := fun b => by
      rw [List.nodup_iff_pairwise_ne, List.pairwise_map]
      refine (List.nodup_iff_pairwise_ne.mp ih).imp fun {x y} h e => h ?_
      exact List.append_cancel_right e
    rw [List.nodup_append]
    refine ⟨inj false, inj true, fun a ha b hb e => ?_⟩
    obtain ⟨s, _, rfl⟩ := List.mem_map.mp ha
    obtain ⟨u, _, rfl⟩ := List.mem_map.mp hb
    have := congrArg List.getLast? e
    simp at this
theorem lists2_len : ∀ k, (lists2 k).length = 2 ^ k
  | 0 => rfl
  | k + 1 => by
    unfold lists2
    rw [List.length_append, List.length_map, List.length_map, lists2_len k, Nat.pow_succ]
    omega
abbrev IS := Int × PySem.Str
def encP (x : Pn) : IS := (((x.1 : Nat) : Int), txt x.2)
def rawP (n : Nat) : List Pn := ((lists2 n).filter fun t => decide (true ∈ t)).map fun t => (ct t, t)
theorem encP_inj {x y : Pn} (h : encP x = encP y) : x = y := by
  unfold encP at h
  have h1 := congrArg Prod.fst h
  have h2 := congrArg Prod.snd h
  simp only at h1 h2
  exact Prod.ext (by omega) (txt_inj h2)
theorem ltIS (a b : IS) : PySem.W.DatumOrd.lt a b = (if a.1 = b.1 then decide (a.2.cps.toList < b.2.cps.toList) else decide (a.1 < b.1)) := rfl
theorem leIS_iff (a b : IS) : leG a b = true ↔ a.1 < b.1 ∨ (a.1 = b.1 ∧ a.2.cps.toList ≤ b.2.cps.toList) := by
  unfold leG
  rw [ltIS]
  by_cases e : b.1 = a.1
  · rw [if_pos e]
    simp only [Bool.not_eq_true', decide_eq_false_iff_not]
    constructor
    · intro h
      exact .inr ⟨e.symm, List.not_lt.mp h⟩
    · rintro (h | ⟨_, h⟩)
      · omega
      · exact List.not_lt.mpr h
  · rw [if_neg e]
    simp only [Bool.not_eq_true', decide_eq_false_iff_not]
    constructor
    · intro h
      exact .inl (by omega)
    · rintro (h | ⟨h, _⟩) <;> omega
theorem leIS_trans (a b c : IS) (h1 : leG a b = true) (h2 : leG b c = true) : leG a c = true := by
  rw [leIS_iff] at *
  rcases h1 with h1 | ⟨e1, h1⟩ <;> rcases h2 with h2 | ⟨e2, h2⟩
  · exact .inl (by omega)
  · exact .inl (by omega)
  · exact .inl (by omega)
  · exact .inr ⟨by omega, List.le_trans h1 h2⟩
theorem leIS_total (a b : IS) : (leG a b || leG b a) = true := by
  rw [Bool.or_eq_true, leIS_iff, leIS_iff]
  by_cases h1 : a.1 < b.1
  · exact .inl (.inl h1)
  · by_cases h2 : b.1 < a.1
    · exact .inr (.inl h2)
    · rcases List.le_total a.2.cps.toList b.2.cps.toList with h | h
      · exact .inl (.inr ⟨by omega, h⟩)
      · exact .inr (.inr ⟨by omega, h⟩)
theorem sorted_all (n : Nat) : ((rawP n).map encP).mergeSort leG = (allP n).map encP := by
  have hperm : (rawP n).Perm (allP n) := by
    refine (List.perm_ext_iff_of_nodup ?_ (pw_nodup ltP_irr (allP_pw n))).mpr fun x => ?_
    · unfold rawP
      rw [List.nodup_iff_pairwise_ne, List.pairwise_map]
      refine (List.Pairwise.filter _ (List.nodup_iff_pairwise_ne.mp (lists2_nodup n))).imp fun {a b} h e => h (congrArg Prod.snd e)
    · unfold rawP
      rw [List.mem_map, mem_allP]
      constructor
      · rintro ⟨t, ht, rfl⟩
        obtain ⟨h1, h2⟩ := List.mem_filter.mp ht
        exact ⟨mem_lists2.mp h1, rfl, List.count_pos_iff.mpr (of_decide_eq_true h2)⟩
      · rintro ⟨h1, h2, h3⟩
        exact ⟨x.2, List.mem_filter.mpr ⟨mem_lists2.mpr h1, decide_eq_true (List.count_pos_iff.mp (show 0 < ct x.2 by omega))⟩, Prod.ext h2 rfl⟩
  refine List.Perm.eq_of_pairwise (le := fun a b => leG a b = true) (fun a b _ _ h1 h2 => ?_) (List.pairwise_mergeSort leIS_trans leIS_total _) ?_ ((List.mergeSort_perm _ _).trans (hperm.map encP))
  · rw [leIS_iff] at h1 h2
    rcases h1 with h1 | ⟨e1, h1⟩ <;> rcases h2 with h2 | ⟨e2, h2⟩
    · omega
    · omega
    · omega
    · exact Prod.ext e1 (str_ext (List.le_antisymm h1 h2))
  · rw [List.pairwise_map]
    refine (allP_pw n).imp fun {a b} h => (leIS_iff _ _).mpr ?_
    rcases h with h | ⟨e, h⟩
    · exact .inl (by show ((a.1 : Nat) : Int) < (b.1 : Nat); omega)
    · exact .inr ⟨by show ((a.1 : Nat) : Int) = (b.1 : Nat); omega, List.le_of_lt h⟩
theorem allP_len {n : Nat} (hn : n ≤ 12) : (allP n).length ≤ 4096 := by
  have h := congrArg List.length (sorted_all n)
  rw [List.length_mergeSort, List.length_map, List.length_map] at h
  rw [← h]
  unfold rawP
  rw [List.length_map]
  refine Nat.le_trans (List.length_filter_le _ _) ?_
  rw [lists2_len]
  exact Nat.le_trans (Nat.pow_le_pow_right (by decide) hn) (by decide)
/-! counting in texts -/
theorem cnt_txt : ∀ t : List Bool, PyProof.Rows.cnt 49 (t.map sg) = ((ct t : Nat) : Int)
  | [] => rfl
  | b :: t => by
    rw [List.map_cons, PyProof.Rows.cnt_cons, cnt_txt t]
    unfold ct
    rw [List.count_cons]
    cases b
    · simp [sg]
    · simp [sg]
      omega
theorem count_txt (t : List Bool) : Txt.count (txt t) "1" = ((ct t : Nat) : Int) := (PyProof.Rows.count_cnt (txt t) 49).trans (cnt_txt t)
def rCount : V → List V → Hp → VK → Prop := fun x xs H Q => ∃ a b, x = .str a ∧ xs = [.str b] ∧ Q (.int (Txt.count a b)) H
theorem ev_count {σ : L2.St} {H : Hp} {ta tb : TE} {t : List Bool} (ha : Ev ta σ H (.str (txt t))) (hb : Ev tb σ H (.str "1")) : Ev (tM1 rCount ta tb) σ H (.int (ct t : Nat)) := fun H1 e Q q =>
  ha H1 e _ fun H2 e2 => ⟨⟨_, rfl⟩, hb H2 (e.trans e2) _ fun H3 e3 => ⟨txt t, "1", rfl, rfl, by rw [count_txt]; exact q H3 (e2.trans e3)⟩⟩
abbrev txV (ps : List (List Bool)) : List V := ps.map fun p => V.str (txt p)
end Bm
namespace Bm
open PySem PySem.Spec PyProof.Rows L2 Evl
/-! ### met in time -/
def okTime (p t : List Bool) (w a b : Nat) : Bool := match first p t false a b with
  | none => false
  | some k => decide (k ≤ w)
def inTime (p t : List Bool) (w : Nat) : Bool := (List.range p.length).all fun a => (List.range t.length).all fun b => okTime p t w a b
theorem inTime_iff {p t : List Bool} {w : Nat} : inTime p t w = true ↔ ∀ a, a < p.length → ∀ b, b < t.length → okTime p t w a b = true := by
  unfold inTime
  simp only [List.all_eq_true, List.mem_range]
theorem inTime_worst {p t : List Bool} {w : Nat} (hp : 0 < p.length) (ht : 0 < t.length) : inTime p t w = (match (worst p t false).1 with
    | none => false
    | some m => decide (m ≤ w)) := by
  cases h : (worst p t false).1 with
  | none =>
    obtain ⟨a, b, ha, hb, hn⟩ := (worst_none_iff hp ht).mp h
    cases e : inTime p t w with
    | false => rfl
    | true =>
      have := inTime_iff.mp e a ha b hb
      unfold okTime at this
      rw [hn] at this
      cases this
  | some m =>
    show inTime p t w = decide (m ≤ w)
    obtain ⟨a0, b0, ha0, hb0, e0⟩ := worst_at (p := p) (q := t) (l := false) hp ht
    have hm : first p t false a0 b0 = some m := by
      rw [e0] at h
      exact h
    by_cases c : m ≤ w
    · rw [decide_eq_true c]
      refine inTime_iff.mpr fun a ha b hb => ?_
      obtain ⟨k, hk, hk2⟩ := worst_le hp ht h ha hb
      unfold okTime
      rw [hk]
      exact decide_eq_true (by omega)
    · rw [decide_eq_false c]
      cases e : inTime p t w with
      | false => rfl
      | true =>
        have := inTime_iff.mp e a0 ha0 b0 hb0
        unfold okTime at this
        rw [hm] at this
        exact absurd (of_decide_eq_true this) c
theorem inTime_mono {p t : List Bool} {w w' : Nat} (h : w ≤ w') (hi : inTime p t w = true) : inTime p t w' = true := by
  refine inTime_iff.mpr fun a ha b hb => ?_
  have := inTime_iff.mp hi a ha b hb
  unfold okTime at this ⊢
  cases e : first p t false a b with
  | none => rw [e] at this; cases this
  | some k =>
    rw [e] at this
    exact decide_eq_true (by have := of_decide_eq_true this; omega)
def partnerM (p : List Bool) (n w : Nat) : Option Pn := (allP n).find? fun x => inTime p x.2 w
def uptoP (n i : Nat) : List Pn := (List.range i).flatMap fun i => (allOf n (i + 1)).map fun t => (i + 1, t)
theorem uptoP_succ (n i : Nat) : uptoP n (i + 1) = uptoP n i ++ (allOf n (i + 1)).map fun t => (i + 1, t) := by
  unfold uptoP
  rw [List.range_succ, List.flatMap_append]
  simp
theorem uptoP_pre (n : Nat) {i : Nat} (h : i < n) : ∃ s, allP n = uptoP n i ++ ((allOf n (i + 1)).map (fun t => (i + 1, t)) ++ s) := by
  have key : ∀ k, i < k → ∃ s, uptoP n k = uptoP n i ++ ((allOf n (i + 1)).map (fun t => (i + 1, t)) ++ s) := by
    intro k hk
    induction k with
    | zero => omega
    | succ k ih =>
      rw [uptoP_succ]
      by_cases e : i = k
      · subst e
        exact ⟨[], by simp⟩
      · obtain ⟨s, hs⟩ := ih (by omega)
        exact ⟨s ++ (allOf n (k + 1)).map fun t => (k + 1, t), by rw [hs]; simp⟩
  exact key n h
theorem find_app {α : Type} {f : α → Bool} {pre post : List α} {x : α} (h : ∀ y ∈ pre, f y = false) (hx : f x = true) : (pre ++ x :: post).find? f = some x :=
  List.find?_eq_some_iff_append.mpr ⟨hx, pre, post, rfl, fun a ha => by simp [h a ha]⟩
theorem split_at {α : Type} {l : List α} {i : Nat} {x : α} (h : l[i]? = some x) : l = l.take i ++ x :: l.drop (i + 1) := by
  obtain ⟨h1, h2⟩ := List.getElem?_eq_some_iff.mp h
  conv => lhs; rw [← List.take_append_drop i l]
  rw [List.drop_eq_getElem_cons h1, h2]
/-- found in all of so many awake -/
theorem find_allP {n i j : Nat} {t : List Bool} {f : Pn → Bool} (hi : i < n) (hj : (allOf n (i + 1))[j]? = some t) (h1 : ∀ y ∈ uptoP n i, f y = false) (h2 : ∀ u ∈ (allOf n (i + 1)).take j, f (i + 1, u) = false) (h : f (i + 1, t) = true) : (allP n).find? f = some (i + 1, t) := by
  obtain ⟨s, hs⟩ := uptoP_pre n hi
  rw [hs, split_at hj, List.map_append, List.map_cons, List.append_assoc, ← List.append_assoc, List.cons_append]
  refine find_app (fun y hy => ?_) h
  rcases List.mem_append.mp hy with hy | hy
  · exact h1 y hy
  · obtain ⟨u, hu, rfl⟩ := List.mem_map.mp hy
    exact h2 u hu
def cPart : Option Pn → Cel
  | none => .v .non
  | some x => .t [.int (x.1 : Nat), .str (txt x.2)]
theorem cPart_some (x : Pn) : cPart (some x) = cIS (encP x) := rfl
abbrev cT (p : List Bool) : Cel := .v (.str (txt p))
abbrev cP (x : Pn) : Cel := cIS (encP x)
theorem givenC_items {α : Type} (as : List α) (F : α → Bool) (G : α → Cel) : givenC as.length (fun i => (as[i]?.map F).getD true) (fun i => (as[i]?.map G).getD (.v .non)) = (as.filter F).map G := by
  cases as with
  | nil => rfl
  | cons a0 l =>
    generalize hA : a0 :: l = A
    have e : A = (List.range A.length).map fun i => A.getD i a0 := by
      apply List.ext_getElem
      · simp
      · intro i h1 h2
        simp [List.getD_eq_getElem?_getD, List.getElem?_eq_getElem h1]
    have r : (A.filter F).map G = ((List.range A.length).filter fun i => F (A.getD i a0)).map fun i => G (A.getD i a0) := by
      conv => lhs; rw [e]
      rw [List.filter_map, List.map_map]
      rfl
    rw [r]
    unfold givenC
    have e1 : (List.range A.length).filter (fun i => (A[i]?.map F).getD true) = (List.range A.length).filter fun i => F (A.getD i a0) := by
      refine List.filter_congr fun i hi => ?_
      have hi : i < A.length := by simpa using hi
      rw [List.getD_eq_getElem?_getD, List.getElem?_eq_getElem hi]
      rfl
    rw [e1]
    refine List.map_congr_left fun i hi => ?_
    have hi : i < A.length := by simpa using (List.mem_filter.mp hi).1
    rw [List.getD_eq_getElem?_getD, List.getElem?_eq_getElem hi]
    rfl
theorem at_map {α β : Type} {as : List α} {c : α → β} {i : Nat} {y : β} (h : (as.map c)[i]? = some y) : ∃ a, as[i]? = some a ∧ a ∈ as ∧ y = c a := by
  rw [List.getElem?_map] at h
  cases e : as[i]? with
  | none => rw [e] at h; cases h
  | some a => rw [e] at h; exact ⟨a, rfl, List.mem_of_getElem? e, (Option.some.inj h).symm⟩
theorem et_yes {σ : L2.St} {H : Hp} : EvT tYes σ H true := fun H1 _ Q q => q H1 (Ex.refl H1)
section
variable {K : PySem.W.Frag} {σ : L2.St} {H : Hp} {ta tb te tl : TE} {t : TT} {c : Cel} {D : Ends} {tu tz : TS} {g : TG}
/-- comprehensions, item by item: over a new list, over one that stands -/
theorem en_lcTN {α : Type} {as : List α} {c : α → Cel} {j : Nat} {vs : List Nat} (F : α → Bool) (G : α → Cel) (h : EvN K tl σ H (as.map c)) (hz : as.length ≤ 40000) (hw : ∀ x, wipe ((wipe σ vs).set j (some x)) vs = wipe σ vs)
    (ht : ∀ a ∈ as, ∀ (x : V) H1, Ex H H1 → Is K H1 x (c a) → EvT t ((wipe σ vs).set j (some x)) H1 (F a)) (he : ∀ a ∈ as, ∀ (x : V) H1, Ex H H1 → Is K H1 x (c a) → F a = true → EvC K te ((wipe σ vs).set j (some x)) H1 (G a)) :
    EvN K (tLc (iList K tl) (gName j) t te vs) σ H ((as.filter F).map G) := by
  have := en_lcN (K := K) (t := t) (te := te) (j := j) (vs := vs) (fun i => (as[i]?.map F).getD true) (fun i => (as[i]?.map G).getD (.v .non)) h (by rw [List.length_map]; exact hz) hw (fun i x c1 H1 e hc hi => by
    obtain ⟨a, ha, hm, rfl⟩ := at_map hc
    show EvT t _ H1 ((as[i]?.map F).getD true)
    rw [ha]
    exact ht a hm x H1 e hi) (fun i x c1 H1 e hc hi hf => by
    obtain ⟨a, ha, hm, rfl⟩ := at_map hc
    have hf : (as[i]?.map F).getD true = true := hf
    show EvC K te _ H1 ((as[i]?.map G).getD (.v .non))
    rw [ha] at hf ⊢
    exact he a hm x H1 e hi hf)
  rw [List.length_map, givenC_items] at this
  exact this
theorem en_lcTL {α : Type} {as : List α} {c : α → Cel} {a : Addr} {xs : List V} {j : Nat} {vs : List Nat} (F : α → Bool) (G : α → Cel) (h : Ev tl σ H (.ref a)) (hx : SqL K H a xs) (hc : IsAll K H xs (as.map c)) (hz : as.length ≤ 40000) (hw : ∀ x, wipe ((wipe σ vs).set j (some x)) vs = wipe σ vs)
    (ht : ∀ a ∈ as, ∀ (x : V) H1, Ex H H1 → Is K H1 x (c a) → EvT t ((wipe σ vs).set j (some x)) H1 (F a)) (he : ∀ a ∈ as, ∀ (x : V) H1, Ex H H1 → Is K H1 x (c a) → F a = true → EvC K te ((wipe σ vs).set j (some x)) H1 (G a)) :
    EvN K (tLc (iList K tl) (gName j) t te vs) σ H ((as.filter F).map G) := by
  have := en_lcL (K := K) (t := t) (te := te) (j := j) (vs := vs) (fun i => (as[i]?.map F).getD true) (fun i => (as[i]?.map G).getD (.v .non)) h hx hc (by rw [List.length_map]; exact hz) hw (fun i x c1 H1 e hc hi => by
    obtain ⟨a, ha, hm, rfl⟩ := at_map hc
    show EvT t _ H1 ((as[i]?.map F).getD true)
    rw [ha]
    exact ht a hm x H1 e hi) (fun i x c1 H1 e hc hi hf => by
    obtain ⟨a, ha, hm, rfl⟩ := at_map hc
    have hf : (as[i]?.map F).getD true = true := hf
    show EvC K te _ H1 ((as[i]?.map G).getD (.v .non))
    rw [ha] at hf ⊢
    exact he a hm x H1 e hi hf)
  rw [List.length_map, givenC_items] at this
  exact this
/-- over a new list of cells -/
theorem q_forN {cs : List Cel} (h : EvN K tl σ H cs) (Pv : Hp → Nat → L2.St → Hp → Prop) (h0 : ∀ H1, Ex H H1 → Pv H1 0 σ H1) (hx : ∀ H1 i σ' H', Pv H1 i σ' H' → Ex H1 H')
    (hs : ∀ H1 i v c σ' H', Ex H H1 → cs[i]? = some c → Is K H' v c → Pv H1 i σ' H' → g v σ' H' fun σ2 H2 => tu { D with nx := Pv H1 (i + 1), ct := Pv H1 (i + 1), bk := tz D } σ2 H2)
    (hd : ∀ H1 σ' H', Ex H H1 → Pv H1 cs.length σ' H' → tz D σ' H') : tSeq (tFor (iList K tl) g tu) tz D σ H :=
  h H (Ex.refl H) _ fun p xs H1 hp e1 h1 i1 => ⟨p, rfl, ⟨xs, sq_of h1⟩, for_list (xs := xs) (D := { D with nx := tz D }) (Pv H1) (h0 H1 e1) (fun i σ' H' _ pr => sq_of (hx _ _ _ _ pr _ _ h1)) (fun i v σ' H' hv pr => by
    obtain ⟨c, hc, ic⟩ := pr_get i1 hv
    exact hs H1 i v c σ' H' e1 hc (ic.up (hx _ _ _ _ pr)) pr) (fun σ' H' pr => hd H1 σ' H' e1 (by rw [← pr_len i1]; exact pr))⟩
theorem g_cell2 {v x1 x2 : V} {i j : Nat} {Q : L2.St → Hp → Prop} (hi : Is K H v (.t [x1, x2])) (h : Q ((σ.set i (some x1)).set j (some x2)) H) : gTup K 2 (gCons (gName i) (gCons (gName j) gNil)) v σ H Q := by
  obtain ⟨a, rfl, hs⟩ := hi
  exact ⟨a, [x1, x2], rfl, hs, rfl, x1, [x2], rfl, x2, [], rfl, rfl, h⟩
end
/-! ### in a list of (number, text) -/
def rNotInD (K : PySem.W.Frag) : R2 := fun x y H Q => ∃ (a : Addr) (xs : List V) (z : IS) (ps : List IS), y = .ref a ∧ SqL K H a xs ∧ IsAll K H xs (ps.map cIS) ∧ Is K H x (cIS z) ∧ ∀ b : Bool, (b = true ↔ z ∉ ps) → Q (.bl b) H
theorem op_notInD {X : Cx} (hu : X.A.units + 64 < cLine) : OpR X (compareOp .NotIn) (rNotInD X.K) := by
  intro pins s σ H x y v u Q I rx ry h
  obtain ⟨a, xs, z, ps, rfl, hs, hi, hz, q⟩ := h
  obtain ⟨its, rv, hl, _⟩ := I.list hs
  obtain rfl : u = Value.ref a := ry
  obtain ⟨as, ra⟩ := Dp.readsAll I _ xs its (dpAll_of (c := cIS) dp_IS hi) rv
  exact PySem.W.notIn_list_datum (x := z) (xs := ps) hl.isList ⟨as, by simpa using ra⟩ (Dp.reads I _ x v (dp_IS hz) rx) (by show X.A.units + 1 + 1 < cLine; omega) ⟨.bl _, H, I, rfl, q _ (@decide_eq_true_iff _ (_))⟩
/-- a text no later than another -/
def rLeStr : R2 := fun x y H Q => ∃ i j, x = .str i ∧ y = .str j ∧ Q (.bl (!decide (j.cps.toList < i.cps.toList))) H
theorem ev_leS {σ : L2.St} {H : Hp} {ta tb : TE} {p q : List Bool} (ha : Ev ta σ H (.str (txt p))) (hb : Ev tb σ H (.str (txt q))) : Ev (tOp rLeStr ta tb) σ H (.bl (!decide (cod q < cod p))) :=
  ev_op ha hb fun H1 _ _ q' => ⟨txt p, txt q, rfl, rfl, q' H1 (Ex.refl H1)⟩
theorem eqv_P (x y : Pn) : PyData.eqv (datC (cP x)) (datC (cP y)) = decide (x = y) := by
  have e := PySem.W.Datum.eqv (encP x) (encP y)
  refine Eq.trans e (decide_eq_decide.mpr ⟨encP_inj, congrArg encP⟩)
theorem cP_ok (x : Pn) : okC (cP x) = true := by
  show (true && (PyData.strOk (txt x.2) && true)) = true
  rw [txt_ok]
  rfl
theorem shaped_P (x : Pn) : SeqAt.shaped (datC (cP x)) = true := by
  obtain ⟨b1, b2⟩ := lay_c (cP_ok x)
  unfold SeqAt.shaped
  rw [Bool.and_eq_true]
  exact ⟨b1, decide_eq_true (by omega)⟩
end Bm
namespace Bm
open PySem PySem.Spec PyProof.Rows L2 Evl
/-! ### set(xs), xs a list of whole numbers (the road of the library's lemma for tuples) -/
section
variable {P : Program} {w : World} {A : Around} {E : Value → Shared → Prop} {s : Shared}
theorem set_ofList {l : Addr} {items : Array Value} (ns : List Int) {Q : Value → Shared → Prop} (hh : A.handled = none) (hl : s.heap.IsList l items) (hit : IntsAre items.toList ns) (hb : ns.length + 1 < scanBound)
    (h : ∀ (h' : Heap) (tk c : Nat), SetR w h' s.heap.objs.size (fun j => decide (j ∈ ns)) c → (∀ b o, s.heap.get? b = some o → h'.get? b = some o) → Q (.ref s.heap.objs.size) { s with heap := h', toks := tk }) :
    wpAny (model P w) A (call (.type "set") [.ref l]) Q E s := by
  have hsz : items.size = ns.length := by
    have z := IntsAre.length hit
    rw [Array.length_toList] at z
    exact z
  generalize hN : (Obj.mk (.type "set") none (.set #[] 0 (.fresh 0 0 (!w.params.followText "set-order"))) #[]) = N
  obtain ⟨c, tl, hmro⟩ := F.called_set.mro
  have hmade := F.called_set.made
  have hsub := F.called_set.sub
  refine wpAny_call (codeAny_of_tree ?_)
  show wpAny _ _ (callAny (.type "set") _) _ _ _
  refine wpAny_pure ⟨Code.quiet_builtin _ (by decide +kernel), codeAny_builtin F.entry_type_call ?_⟩
  rw [Around.under_plain (weight_type_call_type "set" [.ref l] []) rfl]
  have h1 := F.called_set.notType
  have h2 := F.called_set.canCreate
  have hct := F.typeCall_set_1 (.ref l)
  repeat (any_goals (first | assumption | wp_step))
  refine codeAny_mono (code_set_led1 (.ref l) (E := E) (Q₁ := fun obj s₁ => obj = .ref s.heap.objs.size ∧ s₁ = { s with heap := s.heap.push N }) ⟨rfl, by rw [← hN]⟩) fun r s₁ hr => ?_
  match r, hr with
  | .error e, hr => exact hr
  | .ok (.ret obj), hr =>
    obtain ⟨rfl, rfl⟩ := hr
    have hS : (s.heap.push N).get? s.heap.objs.size = some N := Heap.get?_push_size _ (by rw [← hN]; rfl)
    have hT : Shared.TypeIs { s with heap := s.heap.push N } (.ref s.heap.objs.size) "set" := ⟨_, hS, by rw [← hN]⟩
    have hli := F.called_set.init.lookup
    have hbi := F.called_set.init.bind (.ref s.heap.objs.size)
    repeat (any_goals (first | assumption | wp_step))
    refine codeAny_mono (codeAny_call_builtin (R := wants (fun r s₂ => r = .none ∧ ∃ h' tk c, s₂ = { s with heap := h', toks := tk } ∧ SetR w h' s.heap.objs.size (fun j => decide (j ∈ ns)) c ∧ (∀ b o, s.heap.get? b = some o → h'.get? b = some o)) E) F.called_set.init.plain F.entry_set_init (check_set_init_1 hT ?_)) fun r₂ s₂ hr₂ => ?_
    · have hl1 : (s.heap.push N).IsList l items := hl.push N
      obtain ⟨ol, hol, hcl, nl, hdl⟩ := hl
      obtain ⟨ocls, odict, odata, oslots⟩ := ol
      simp only at hcl hdl
      subst hcl; subst hdl
      have hol' : (s.heap.push N).get? l = some { cls := .type "list", dict := odict, data := .seq items nl, slots := oslots } := Heap.get?_push_of_some _ hol
      have hsls := F.sub_list_set
      have hslf := F.sub_list_frozenset
      have hne : (Value.type "list" == Value.type "dict") = false := by decide
      have hz1 : (s.heap.push N).objs.size = s.heap.objs.size + 1 := Heap.size_push ..
      have hlS : l < s.heap.objs.size := Heap.lt_size hol
      have hneI : l ≠ (s.heap.push N).objs.size := by
        rw [hz1]
        exact Nat.ne_of_lt (Nat.lt_succ_of_lt hlS)
      have hSf : s.heap.objs.size ∉ [(s.heap.push N).objs.size, l] := by
        rw [hz1]
        simp only [List.mem_cons, List.not_mem_nil, or_false, not_or]
        exact ⟨Nat.ne_of_lt (Nat.lt_succ_self _), Nat.ne_of_gt hlS⟩
      subst hN
      unfold Builtin.«set.__init__» noKeywords Builtin.Frozenset.updateFrom
      generalize hPI : pyIter = PI
      wp_walk
      subst hPI
      refine wpAny_pyIter_list hl1 ?_
      refine wpAny_bind (wpAny_runValue ?_)
      have hh3 : A.in1.in1.in1.handled = none := by simp [hh]
      have hval : ∀ (i : Nat) (v : Value), items[i]? = some v → ∃ k t, ns[i]? = some k ∧ v = .int k t := fun i v hv => by
        have hi : i < ns.length := by
          rw [← hsz]
          exact (Array.getElem?_eq_some_iff.mp hv).1
        obtain ⟨t, e⟩ := PyProof.Rows.IntsAre.int_at hit i v (by rw [Array.getElem?_toList]; exact hv)
        refine ⟨ns[i], t, List.getElem?_eq_getElem hi, ?_⟩
        rw [e, List.getD_eq_getElem?_getD, List.getElem?_eq_getElem hi]
        rfl
      refine set_update_ints ((Walks.list hh3 _ l hneI items).toS) s.heap.objs.size hSf ns hsz hb hval (items.size - 0) 0 _ (by omega) (Nat.zero_le _)
        ⟨⟨_, Heap.get?_push_size _ rfl, rfl, rfl⟩, (hl1.push _)⟩ ?hS0 ?hR
      case hS0 => exact ⟨0, Nat.le_refl 0, setR_new_at (Heap.get?_push_of_some _ hS)⟩
      case hR =>
        intro s' c' hm hc' hS'
        obtain ⟨h', g2, d', tk', os'⟩ := s'
        have eg : g2 = s.gens := hm.gens
        have ed : d' = s.drawn := hm.drawn
        have eo : os' = s.os := hm.os
        subst eg; subst ed; subst eo
        show wpAny _ _ _ _ _ _
        refine wpAny_pure ?_
        show wpAny _ _ (ret Value.none) _ _ _
        refine wpAny_pure ⟨rfl, h', tk', c', rfl, hS', fun b o e => ?_⟩
        have hb0 : b < s.heap.objs.size := Heap.lt_size e
        refine hm.heap b o ?_ (Heap.get?_push_of_some _ (Heap.get?_push_of_some _ e))
        simp only [List.mem_cons, List.not_mem_nil, or_false, not_or]
        refine ⟨Nat.ne_of_lt hb0, ?_⟩
        rw [hz1]
        exact Nat.ne_of_lt (Nat.lt_succ_of_lt hb0)
    · match r₂, hr₂ with
      | .error e, hr₂ => exact hr₂
      | .ok (.ret r), hr₂ =>
        obtain ⟨rfl, h', tk, c', rfl, hS', hk'⟩ := hr₂
        repeat (any_goals (first | assumption | wp_step))
        exact h _ _ _ hS' hk'
end
/-! ### as values -/
/-- what a set of these has: as many as it has different ones -/
def Dist (ns : List Int) (c : Nat) : Prop := ∃ ks : List Int, ks.Nodup ∧ (∀ k, k ∈ ks ↔ k ∈ ns) ∧ ks.length = c
def rSetL (K : PySem.W.Frag) (w : World) : List V → Hp → VK → Prop := fun vs H Q => ∃ (l : Addr) (ns : List Int), vs = [.ref l] ∧ SqL K H l (ns.map V.int) ∧ ns.length ≤ 4000 ∧ ∀ (p : Addr) (c : Nat), H p = none → Dist ns c → Q (.ref p) (upd H p (SetO w p (fun j => decide (j ∈ ns)) c))
theorem cr_setL {X : Cx} (hc : X.calm = true) : CallR X (.type "set") (rSetL X.K X.w) := by
  intro pins s σ H vs us Q I r h
  obtain ⟨l, ns, rfl, hs, hl, q⟩ := h
  obtain ⟨its, rv, pl, hz⟩ := I.list hs
  rw [Vals.ref1 r]
  refine set_ofList ns (I.ok.hd hc) pl.isList (by simpa using ints_of_vals rv) (by unfold scanBound; omega) fun h' tk c R k => ?_
  have hd : Dist ns c := by
    obtain ⟨o, es, ep, t, ho, hx, hd, g, nd, hm, hb, hf, hn, _⟩ := R
    exact ⟨es.toList.map keyOf, nd, fun k => by rw [← hm k, decide_eq_true_eq], by rw [List.length_map, Array.length_toList]; exact hn⟩
  exact ⟨.ref _, upd H s.heap.objs.size (SetO X.w s.heap.objs.size (fun j => decide (j ∈ ns)) c), I.laid (t' := tk) (fun b u e => k b u e) (Nat.le_refl _) (setO_new R), rfl, q _ c (I.hok.fresh (Nat.le_refl _)) hd⟩
def rLenSet (w : World) : List V → Hp → VK → Prop := fun vs H Q => ∃ (a : Addr) (S : Int → Bool) (n : Nat), vs = [.ref a] ∧ H a = some (SetO w a S n) ∧ n ≤ 4000 ∧ Q (.int (n : Nat)) H
theorem cr_lenSet {X : Cx} : CallR X (.builtin "len") (rLenSet X.w) := by
  intro pins s σ H vs us Q I r h
  obtain ⟨a, S, n, rfl, ha, hn4, q⟩ := h
  rw [Vals.ref1 r]
  obtain ⟨o, es, ep, t, ho, hex, hd, _, _, _, hb, hf, hn, _⟩ := setO_get I ha
  exact call_len_set ho hex hd hf (by rw [hn]; omega) ⟨.int n, H, I.tok _, ⟨_, by rw [hn]⟩, q⟩
/-- two lists that rise and have the same members -/
theorem rise_eq {as bs : List Int} (ha : as.Pairwise (· < ·)) (hb : bs.Pairwise (· < ·)) (h : ∀ k, k ∈ as ↔ k ∈ bs) : as = bs := by
  refine List.Perm.eq_of_pairwise (le := fun a b => a < b) (fun a b _ _ h1 h2 => absurd (Int.lt_trans h1 h2) (Int.lt_irrefl _)) ha hb ?_
  have nd : ∀ {l : List Int}, l.Pairwise (· < ·) → l.Nodup := fun h => List.nodup_iff_pairwise_ne.mpr (h.imp (S := fun a b => a ≠ b) fun {a b} r => Int.ne_of_lt r)
  exact (List.perm_ext_iff_of_nodup (nd ha) (nd hb)).mpr h
theorem few_nat : ∀ (m : Nat) (l : List Nat), l.Nodup → (∀ x ∈ l, x < m) → l.length ≤ m
  | 0, l, _, h => by
    cases l with
    | nil => exact Nat.le_refl _
    | cons a l => exact absurd (h a List.mem_cons_self) (Nat.not_lt_zero _)
  | m + 1, l, nd, h => by
    have ih := few_nat m (l.erase m) (nd.erase m) fun x hx => by
      obtain ⟨h1, h2⟩ := nd.mem_erase_iff.mp hx
      have := h x h2
      omega
    rw [List.length_erase] at ih
    split at ih <;> omega
theorem dist_few {ns : List Int} {c m : Nat} (h : Dist ns c) (hm : ∀ k ∈ ns, 0 ≤ k ∧ k < (m : Nat)) : c ≤ m := by
  obtain ⟨ks, nd, hk, rfl⟩ := h
  have h1 : (ks.map Int.toNat).Nodup := by
    rw [List.nodup_iff_pairwise_ne, List.pairwise_map]
    refine (List.nodup_iff_pairwise_ne.mp nd).imp_of_mem fun {a b} ha hb hne e => hne ?_
    have := hm a ((hk a).mp ha)
    have := hm b ((hk b).mp hb)
    omega
  have := few_nat m _ h1 fun x hx => by
    obtain ⟨a, ha, rfl⟩ := List.mem_map.mp hx
    have := hm a ((hk a).mp ha)
    omega
  rw [List.length_map] at this
  exact this
theorem dist_eq {ns : List Int} {c d : Nat} (h : Dist ns c) (h' : Dist ns d) : c = d := by
  obtain ⟨ks, nd, hk, rfl⟩ := h
  obtain ⟨ls, nd', hk', rfl⟩ := h'
  exact ((List.perm_ext_iff_of_nodup nd nd').mpr fun k => (hk k).trans (hk' k).symm).length_eq
section
variable {K : PySem.W.Frag} {w : World} {σ : L2.St} {H : Hp} {ta : TE}
theorem el_sortSet {ns ms : List Int} (ha : EvL ta σ H (ns.map V.int)) (hl : ns.length ≤ 4000) (hb : ∀ k ∈ ns, 0 ≤ k ∧ k < 60) (hm : ms.Pairwise (· < ·)) (he : ∀ k, k ∈ ms ↔ k ∈ ns) : EvL (tCB (rSortedSet w) (tCons (tCB (rSetL K w) (tCons ta tNil)) tNil)) σ H (ms.map V.int) := fun H1 e Q q =>
  ha H1 e _ fun p H2 hp e2 h2 => ⟨p, ns, rfl, sq_of h2, hl, fun s c hs hd => ⟨s, _, c, rfl, upd_same, by have := dist_few (m := 60) hd hb; omega, fun ls t h1 h3 h4 ht => by
    have : ls = ms := rise_eq h1 hm fun k => by rw [h3 k, he k, decide_eq_true_eq]
    rw [this]
    have e3 : Ex H2 (upd H2 s (SetO w s (fun j => decide (j ∈ ns)) c)) := Ex.new hs
    exact q t _ (fresh_back (e2.trans e3) ht) ((e2.trans e3).trans (Ex.new ht)) upd_same⟩⟩
theorem ev_lenSet {a : Addr} {ns : List Int} {c : Nat} (ha : Ev ta σ H (.ref a)) (hs : SqL K H a (ns.map V.int)) (hl : ns.length ≤ 4000) (hd : Dist ns c) (hc : c ≤ 4000) : Ev (tCB (rLenSet w) (tCons (tCB (rSetL K w) (tCons ta tNil)) tNil)) σ H (.int (c : Nat)) := fun H1 e Q q =>
  ha H1 e _ fun H2 e2 => ⟨a, ns, rfl, ex_l (e.trans e2) hs, hl, fun s c' hs' hd' => ⟨s, _, c', rfl, upd_same, by rw [dist_eq hd' hd]; exact hc, by
    rw [dist_eq hd' hd]
    exact q _ (e2.trans (Ex.new hs'))⟩⟩
end
end Bm
namespace Bm
open PySem PySem.Spec PyProof.Rows L2 Evl
/-! ### distances of awake beats -/
def hasD (p : List Bool) (d : Nat) : Bool := (ones p).any fun i => aw p (i + d)
def lackM (p : List Bool) : Option Nat := (List.range p.length).find? fun d => !hasD p d
def apartM (p : List Bool) : List Nat := (List.range p.length).filter (hasD p)
def fewestM (n : Nat) : Option Pn := (allP n).find? fun x => (lackM x.2).isNone
def begM (n m : Nat) : List (List Bool) := (allOf n m).filter fun p => p.getD 0 false
theorem hasD_iff {p : List Bool} {d : Nat} : hasD p d = true ↔ ∃ i ∈ ones p, aw p (i + d) = true := by
  unfold hasD
  rw [List.any_eq_true]
theorem lack_none {p : List Bool} : lackM p = none ↔ ∀ d, d < p.length → hasD p d = true := by
  unfold lackM
  constructor
  · intro h d hd
    have := find_range_none h d hd
    simpa using this
  · intro h
    exact find_range_no fun d hd => by rw [h d hd]; rfl
theorem apart_full {p : List Bool} : apartM p = List.range p.length ↔ lackM p = none := by
  rw [lack_none]
  unfold apartM
  rw [List.filter_eq_self]
  simp only [List.mem_range]
theorem all1_lack {n : Nat} : lackM (List.replicate n true) = none := by
  rw [lack_none]
  intro d hd
  rw [List.length_replicate] at hd
  have hg : ∀ i, i < n → (List.replicate n true).getD i false = true := fun i hi => by
    rw [List.getD_eq_getElem?_getD, List.getElem?_replicate, if_pos hi]
    rfl
  refine hasD_iff.mpr ⟨0, mem_ones.mpr ⟨by rw [List.length_replicate]; omega, hg 0 (by omega)⟩, ?_⟩
  unfold aw
  rw [List.length_replicate]
  exact hg _ (Nat.mod_lt _ (by omega))
theorem all1_in {n : Nat} (h : 1 ≤ n) : (n, List.replicate n true) ∈ allP n := mem_allP.mpr ⟨by simp, by show ct (List.replicate n true) = n; unfold ct; simp, h⟩
theorem few_ex {n : Nat} (h : 1 ≤ n) : ∃ x, fewestM n = some x := by
  cases e : fewestM n with
  | some x => exact ⟨x, rfl⟩
  | none =>
    have := List.find?_eq_none.mp e _ (all1_in h)
    rw [all1_lack] at this
    exact absurd rfl this
theorem few_facts {n : Nat} {x : Pn} (h : fewestM n = some x) : x ∈ allP n ∧ lackM x.2 = none := by
  refine ⟨List.mem_of_find?_eq_some h, ?_⟩
  have := (List.find?_eq_some_iff_append.mp h).1
  simpa using this
theorem lack_less {n : Nat} {x : Pn} (h : fewestM n = some x) {p : List Bool} (hp : p.length = n) (h1 : 1 ≤ ct p) (h2 : ct p < x.1) : ∃ d, lackM p = some d := by
  have := find_first (R := ltP) ltP_asym (allP_pw n) h (y := (ct p, p)) (mem_allP.mpr ⟨hp, rfl, h1⟩) (.inl h2)
  cases e : lackM p with
  | some d => exact ⟨d, rfl⟩
  | none =>
    have this : (lackM p).isNone = false := this
    rw [e] at this
    cases this
theorem lack_lt {p : List Bool} {d : Nat} (h : lackM p = some d) : d < p.length ∧ hasD p d = false := by
  obtain ⟨h1, h2, _⟩ := find_range_some h
  exact ⟨h1, by simpa using h2⟩
theorem getD_self (p : List Bool) : (List.range p.length).map (fun i => p.getD i false) = p := by
  apply List.ext_getElem
  · simp
  · intro i h1 h2
    simp [List.getD_eq_getElem?_getD, List.getElem?_eq_getElem h2]
theorem ones_len (p : List Bool) : (ones p).length = ct p := by
  unfold ones ct
  conv => rhs; rw [← getD_self p]
  rw [List.count_eq_countP, List.countP_map, List.countP_eq_length_filter]
  congr 1
  refine List.filter_congr fun i _ => ?_
  show p.getD i false = (p.getD i false == true)
  cases p.getD i false <;> rfl
theorem sub_len : ∀ (l D : List Nat), l.Nodup → (∀ x ∈ l, x ∈ D) → l.length ≤ D.length
  | [], _, _, _ => Nat.zero_le _
  | a :: l, D, nd, h => by
    obtain ⟨na, nd⟩ := List.nodup_cons.mp nd
    have ha := h a List.mem_cons_self
    have ih := sub_len l (D.erase a) nd fun x hx => (List.mem_erase_of_ne (fun e => na (by rw [← e]; exact hx))).mpr (h x (List.mem_cons_of_mem _ hx))
    rw [List.length_erase, if_pos ha] at ih
    have : 0 < D.length := List.length_pos_of_mem ha
    rw [List.length_cons]
    omega
theorem add_round {i d n : Nat} (hi : i < n) (hd : d < n) : (i + d) % n = if i + d < n then i + d else i + d - n := by
  by_cases c : i + d < n
  · rw [if_pos c, Nat.mod_eq_of_lt c]
  · rw [if_neg c, Nat.mod_eq_sub_mod (by omega), Nat.mod_eq_of_lt (by omega)]
theorem sub_round {a o n : Nat} (ha : a < n) (ho : o < n) : (((o : Nat) : Int) - (a : Nat)) % (n : Nat) = (((if a ≤ o then o - a else o + n - a) : Nat) : Int) := by
  by_cases c : a ≤ o
  · rw [if_pos c, Int.emod_eq_of_lt (by omega) (by omega)]
    omega
  · rw [if_neg c, ← Int.add_emod_right, Int.emod_eq_of_lt (by omega) (by omega)]
    omega
theorem few_bound {p : List Bool} (h : lackM p = none) : p.length ≤ ct p * (ct p - 1) + 1 := by
  have hc := lack_none.mp h
  by_cases h0 : p.length = 0
  · omega
  have key := sub_len ((List.range (p.length - 1)).map (· + 1)) ((ones p).flatMap fun i => ((ones p).erase i).map fun j => if i ≤ j then j - i else j + p.length - i) (by
    rw [List.nodup_iff_pairwise_ne, List.pairwise_map]
    exact (List.nodup_iff_pairwise_ne.mp List.nodup_range).imp fun {a b} hne e => hne (by omega)) (fun x hx => by
    obtain ⟨y, hy, rfl⟩ := List.mem_map.mp hx
    have hy := List.mem_range.mp hy
    obtain ⟨i, hi, ha⟩ := hasD_iff.mp (hc (y + 1) (by omega))
    have hil := (mem_ones.mp hi).1
    rw [aw_iff (by omega)] at ha
    have hj := of_decide_eq_true ha
    rw [add_round hil (by omega)] at hj
    rw [List.mem_flatMap]
    refine ⟨i, hi, List.mem_map.mpr ⟨_, (List.mem_erase_of_ne ?_).mpr hj, ?_⟩⟩
    · split <;> omega
    · have : y + 1 < p.length := by omega
      split <;> split <;> omega)
  rw [List.length_map, List.length_range] at key
  have hl : ∀ (l D : List Nat) (f : Nat → Nat → Nat), (∀ i ∈ l, i ∈ D) → (l.flatMap fun i => (D.erase i).map (f i)).length = l.length * (D.length - 1) := by
    intro l D f
    induction l with
    | nil => intro _; simp
    | cons a l ih =>
      intro hl
      rw [List.flatMap_cons, List.length_append, ih fun i hi => hl i (List.mem_cons_of_mem _ hi), List.length_map, List.length_erase, if_pos (hl a List.mem_cons_self), List.length_cons, Nat.succ_mul]
      omega
  rw [hl (ones p) (ones p) (fun i j => if i ≤ j then j - i else j + p.length - i) fun _ h => h, ones_len] at key
  omega
/-- what is all distances apart surely meets itself -/
theorem self_meets {p : List Bool} (hp : 0 < p.length) (h : lackM p = none) : (worst p p false).1 ≠ none := by
  rw [Ne, worst_none_iff hp hp]
  rintro ⟨a, b, ha, hb, hn⟩
  have hn := find_range_none hn
  obtain ⟨i, hi, hd⟩ := hasD_iff.mp (lack_none.mp h (if a ≤ b then b - a else b + p.length - a) (by split <;> omega))
  have hil := (mem_ones.mp hi).1
  have hm := hn (if a ≤ i then i - a else i + p.length - a) (by
    have : p.length * 1 ≤ p.length * p.length := Nat.mul_le_mul_left _ hp
    split <;> omega)
  unfold met at hm
  have e1 : aw p (a + if a ≤ i then i - a else i + p.length - a) = true := by
    rw [aw_iff hp]
    refine decide_eq_true ?_
    have : (a + if a ≤ i then i - a else i + p.length - a) % p.length = i := by
      by_cases c : a ≤ i
      · rw [if_pos c, Nat.mod_eq_of_lt (by omega)]
        omega
      · rw [if_neg c, Nat.mod_eq_sub_mod (by omega), Nat.mod_eq_of_lt (by omega)]
        omega
    rw [this]
    exact hi
  have e2 : aw p (b + if a ≤ i then i - a else i + p.length - a) = true := by
    rw [aw_iff hp] at hd ⊢
    refine decide_eq_true ?_
    have hd := of_decide_eq_true hd
    have : (b + if a ≤ i then i - a else i + p.length - a) % p.length = (i + if a ≤ b then b - a else b + p.length - a) % p.length := by
      have md : ∀ x, p.length ≤ x → x < p.length + p.length → x % p.length = x - p.length := fun x h1 h2 => by rw [Nat.mod_eq_sub_mod h1, Nat.mod_eq_of_lt (by omega)]
      have md2 : ∀ x, p.length + p.length ≤ x → x < p.length + p.length + p.length → x % p.length = x - p.length - p.length := fun x h1 h2 => by rw [Nat.mod_eq_sub_mod (by omega), md _ (by omega) (by omega)]
      have mm : ∀ x y, x = y → x % p.length = y % p.length := fun x y e => by rw [e]
      have mp : ∀ x y, x = y + p.length → x % p.length = y % p.length := fun x y e => by rw [e, Nat.add_mod_right]
      by_cases c : a ≤ i <;> by_cases c2 : a ≤ b
      · rw [if_pos c, if_pos c2]
        exact mm _ _ (by omega)
      · rw [if_pos c, if_neg c2]
        exact (mp _ _ (by omega)).symm
      · rw [if_neg c, if_pos c2]
        exact mp _ _ (by omega)
      · rw [if_neg c, if_neg c2]
        exact mm _ _ (by omega)
    rw [this]
    exact hd
  rw [e1, e2] at hm
  cases hm
/-! the law's own distances -/
def apL (p : List Bool) (as : List Nat) : List Int := as.flatMap fun a => (ones p).map fun o => (((o : Nat) : Int) - (a : Nat)) % (p.length : Nat)
theorem apL_mem {p : List Bool} {k : Int} : k ∈ (apartM p).map (fun d => ((d : Nat) : Int)) ↔ k ∈ apL p (ones p) := by
  unfold apL apartM
  rw [List.mem_map, List.mem_flatMap]
  constructor
  · rintro ⟨d, hd, rfl⟩
    obtain ⟨hd1, hd2⟩ := List.mem_filter.mp hd
    have hd1 := List.mem_range.mp hd1
    obtain ⟨i, hi, ha⟩ := hasD_iff.mp hd2
    have hil := (mem_ones.mp hi).1
    rw [aw_iff (by omega)] at ha
    have ho := of_decide_eq_true ha
    have hol := (mem_ones.mp ho).1
    refine ⟨i, hi, List.mem_map.mpr ⟨_, ho, ?_⟩⟩
    rw [sub_round hil hol, add_round hil hd1]
    congr 1
    split <;> split <;> omega
  · rintro ⟨a, ha, h⟩
    obtain ⟨o, ho, rfl⟩ := List.mem_map.mp h
    have hal := (mem_ones.mp ha).1
    have hol := (mem_ones.mp ho).1
    refine ⟨if a ≤ o then o - a else o + p.length - a, List.mem_filter.mpr ⟨List.mem_range.mpr (by split <;> omega), hasD_iff.mpr ⟨a, ha, ?_⟩⟩, (sub_round hal hol).symm⟩
    rw [aw_iff (by omega), add_round hal (by split <;> omega)]
    refine decide_eq_true ?_
    have e : (if (a + if a ≤ o then o - a else o + p.length - a) < p.length then (a + if a ≤ o then o - a else o + p.length - a) else (a + if a ≤ o then o - a else o + p.length - a) - p.length) = o := by
      split <;> split <;> omega
    rw [e]
    exact ho
theorem apart_rise (p : List Bool) : ((apartM p).map (fun d => ((d : Nat) : Int))).Pairwise (· < ·) := by
  rw [List.pairwise_map]
  refine (List.Pairwise.filter _ (range_pw p.length)).imp fun {a b} h => ?_
  show ((a : Nat) : Int) < (b : Nat)
  omega
/-! ### papers -/
abbrev SI := PySem.Str × Int
def paperOf (n m : Nat) : List SI := (begM n m).map fun p => (txt p, (((lackM p).getD 0 : Nat) : Int))
def paperM (n : Nat) : List SI := match fewestM n with
  | some x => if 1 < x.1 then paperOf n (x.1 - 1) else []
  | none => []
def goodBy (p : List Bool) (b : Int) : Bool := decide (0 ≤ b) && decide (b < (p.length : Nat)) && !hasD p b.toNat
def showsM (n m : Nat) (rs : List SI) : Bool := if m = 0 then rs.isEmpty else decide (rs.map Prod.fst = (begM n m).map txt) && ((begM n m).zip (rs.map Prod.snd)).all fun x => goodBy x.1 x.2
theorem mem_begM {n m : Nat} {p : List Bool} : p ∈ begM n m ↔ p.length = n ∧ ct p = m ∧ p.getD 0 false = true := by
  unfold begM
  rw [List.mem_filter, mem_allOf]
  exact ⟨fun h => ⟨h.1.1, h.1.2, h.2⟩, fun h => ⟨⟨h.1, h.2.1⟩, h.2.2⟩⟩
theorem begM_len {n m : Nat} (hn : n ≤ 12) : (begM n m).length ≤ 4096 := by
  unfold begM allOf
  refine Nat.le_trans (List.length_filter_le _ _) (Nat.le_trans (List.length_filter_le _ _) ?_)
  rw [lists_len]
  exact Nat.le_trans (Nat.pow_le_pow_right (by decide) hn) (by decide)
theorem paper_shows {n : Nat} {x : Pn} (h : fewestM n = some x) (hx : 1 ≤ x.1) : showsM n (x.1 - 1) (paperM n) = true := by
  have e0 : paperM n = if 1 < x.1 then paperOf n (x.1 - 1) else [] := by
    unfold paperM
    rw [h]
  by_cases c : x.1 - 1 = 0
  · rw [e0, if_neg (by omega)]
    unfold showsM
    rw [if_pos c]
    rfl
  · rw [e0, if_pos (by omega)]
    unfold showsM
    rw [if_neg c, Bool.and_eq_true]
    unfold paperOf
    refine ⟨decide_eq_true ?_, ?_⟩
    · rw [List.map_map]
      rfl
    · rw [List.map_map, List.all_eq_true]
      rintro ⟨p, b⟩ hpb
      rw [List.zip_map_right] at hpb
      obtain ⟨⟨p1, p2⟩, hz, e⟩ := List.mem_map.mp hpb
      have e12 : p1 = p2 := by
        obtain ⟨i, hi⟩ := List.mem_iff_getElem?.mp hz
        rw [List.getElem?_zip_eq_some] at hi
        have := hi.1.symm.trans hi.2
        exact Option.some.inj this
      subst e12
      cases e
      obtain ⟨hl, hc, _⟩ := mem_begM.mp (List.of_mem_zip hz).1
      obtain ⟨d, hd⟩ := lack_less h hl (by omega) (by omega)
      obtain ⟨h1, h2⟩ := lack_lt hd
      show goodBy p1 (((lackM p1).getD 0 : Nat) : Int) = true
      rw [hd]
      unfold goodBy
      show (decide (0 ≤ ((d : Nat) : Int)) && decide (((d : Nat) : Int) < (p1.length : Nat)) && !hasD p1 (((d : Nat) : Int)).toNat) = true
      rw [Int.toNat_natCast, h2, decide_eq_true (by omega), decide_eq_true (by omega)]
      rfl
theorem paper_len {n : Nat} (hn : n ≤ 12) : (paperM n).length ≤ 4096 := by
  unfold paperM
  cases fewestM n with
  | none => exact Nat.zero_le _
  | some x =>
    show (if 1 < x.1 then paperOf n (x.1 - 1) else []).length ≤ 4096
    split
    · unfold paperOf
      rw [List.length_map]
      exact begM_len hn
    · exact Nat.zero_le _
/-! ### is True, is not True -/
theorem op_isB {X : Cx} : OpR X (compareOp .Is) (fun x y H Q => ∃ a b, x = .bl a ∧ y = .bl b ∧ Q (.bl (decide (a = b))) H) := by
  intro pins s σ H x y v u Q I rx ry h
  obtain ⟨a, b, rfl, rfl, q⟩ := h
  cases rx
  cases ry
  show wpAny _ _ ((isSame (Value.bool a) (Value.bool b)) >>= fun z => pure (Value.bool z)) _ _ s
  refine wpAny_bind (wpAny_isSame_plain rfl (wpAny_pure (fin_bl I q ?_)))
  cases a <;> cases b <;> rfl
theorem op_isnotB {X : Cx} : OpR X (compareOp .IsNot) (fun x y H Q => ∃ a b, x = .bl a ∧ y = .bl b ∧ Q (.bl (!decide (a = b))) H) := by
  intro pins s σ H x y v u Q I rx ry h
  obtain ⟨a, b, rfl, rfl, q⟩ := h
  cases rx
  cases ry
  show wpAny _ _ ((isSame (Value.bool a) (Value.bool b)) >>= fun z => pure (Value.bool (!z))) _ _ s
  refine wpAny_bind (wpAny_isSame_plain rfl (wpAny_pure (fin_bl I q ?_)))
  cases a <;> cases b <;> rfl
section
variable {K : PySem.W.Frag} {σ : L2.St} {H : Hp} {ta tb te : TE} {t : TT}
theorem en_if {b : Bool} {cs : List Cel} (h : EvT t σ H b) (h1 : b = true → EvN K ta σ H cs) (h2 : b = false → EvN K tb σ H cs) : EvN K (tIf t ta tb) σ H cs := fun H1 e Q q => h H1 e _ fun H2 e2 => by
  cases b with
  | true => exact iteT (h1 rfl H2 (e.trans e2) _ fun p xs H3 hp e3 h3 i3 => q p xs H3 (fresh_back e2 hp) (e2.trans e3) h3 i3)
  | false => exact iteF (h2 rfl H2 (e.trans e2) _ fun p xs H3 hp e3 h3 i3 => q p xs H3 (fresh_back e2 hp) (e2.trans e3) h3 i3)
/-- two new lists, compared as data -/
theorem ev_eqNN {cs ds : List Cel} {b : Bool} (ha : EvN K ta σ H cs) (hb : ∀ H1, Ex H H1 → EvN K tb σ H1 ds) (oc : cs.all okC = true) (od : ds.all okC = true) (hq : PyData.eqv (.list (cs.map datC)) (.list (ds.map datC)) = b) : Ev (tOp (rEqD K) ta tb) σ H (.bl b) := fun H1 e Q q =>
  ha H1 e _ fun p xs H2 hp e2 h2 i2 => hb H2 (e.trans e2) H2 (Ex.refl H2) _ fun p' ys H3 hp' e3 h3 i3 => ⟨_, _, .lst (sq_of (e3 _ _ h2)) (dp_cs (i2.up e3) oc), .lst (sq_of h3) (dp_cs i3 od), shaped_cs oc, shaped_cs od, by rw [hq]; exact q H3 (e2.trans e3)⟩
theorem ev_neNN {cs ds : List Cel} {b : Bool} (ha : EvN K ta σ H cs) (hb : ∀ H1, Ex H H1 → EvN K tb σ H1 ds) (oc : cs.all okC = true) (od : ds.all okC = true) (hq : PyData.eqv (.list (cs.map datC)) (.list (ds.map datC)) = b) : Ev (tOp (rNeD K) ta tb) σ H (.bl (!b)) := fun H1 e Q q =>
  ha H1 e _ fun p xs H2 hp e2 h2 i2 => hb H2 (e.trans e2) H2 (Ex.refl H2) _ fun p' ys H3 hp' e3 h3 i3 => ⟨_, _, .lst (sq_of (e3 _ _ h2)) (dp_cs (i2.up e3) oc), .lst (sq_of h3) (dp_cs i3 od), shaped_cs oc, shaped_cs od, by rw [hq]; exact q H3 (e2.trans e3)⟩
end
def cI (k : Int) : Cel := .v (.int k)
theorem eqv_ints (as bs : List Int) : PyData.eqv (.list ((as.map cI).map datC)) (.list ((bs.map cI).map datC)) = decide (as = bs) := by
  have e := PySem.W.Datum.eqv as bs
  rw [List.map_map, List.map_map]
  exact e
theorem eqv_strs (as bs : List PySem.Str) : PyData.eqv (.list ((as.map cS).map datC)) (.list ((bs.map cS).map datC)) = decide (as = bs) := by
  have e := PySem.W.Datum.eqv as bs
  rw [List.map_map, List.map_map]
  exact e
theorem ints_ok (as : List Int) : (as.map cI).all okC = true := by
  rw [List.all_map, List.all_eq_true]
  intro _ _
  rfl
theorem strs_ok {as : List PySem.Str} (h : ∀ s ∈ as, PyData.strOk s = true) : (as.map cS).all okC = true := by
  rw [List.all_map, List.all_eq_true]
  intro s hs
  exact h s hs
section
variable {K : PySem.W.Frag} {w : World} {σ : L2.St} {H : Hp} {ta : TE}
theorem el_sortSetV {a : Addr} {ns ms : List Int} (ha : Ev ta σ H (.ref a)) (hs : SqL K H a (ns.map V.int)) (hl : ns.length ≤ 4000) (hb : ∀ k ∈ ns, 0 ≤ k ∧ k < 60) (hm : ms.Pairwise (· < ·)) (he : ∀ k, k ∈ ms ↔ k ∈ ns) : EvL (tCB (rSortedSet w) (tCons (tCB (rSetL K w) (tCons ta tNil)) tNil)) σ H (ms.map V.int) := fun H1 e Q q =>
  ha H1 e _ fun H2 e2 => ⟨a, ns, rfl, ex_l (e.trans e2) hs, hl, fun s c hs' hd => ⟨s, _, c, rfl, upd_same, by have := dist_few (m := 60) hd hb; omega, fun ls t h1 h3 h4 ht => by
    have : ls = ms := rise_eq h1 hm fun k => by rw [h3 k, he k, decide_eq_true_eq]
    rw [this]
    have e3 : Ex H2 (upd H2 s (SetO w s (fun j => decide (j ∈ ns)) c)) := Ex.new hs'
    exact q t _ (fresh_back (e2.trans e3) ht) ((e2.trans e3).trans (Ex.new ht)) upd_same⟩⟩
theorem el_rg {te : TE} {n : Nat} (h : Ev te σ H (.int (n : Nat))) (hn : n ≤ 1000) : EvL (tLstRg (tRg1 te)) σ H ((List.range n).map fun d => V.int (d : Nat)) := fun H1 e Q q =>
  h H1 e _ fun H2 e2 => ⟨(n : Nat), rfl, RgOk.of_le (by omega) (by omega) (by omega) (by omega), fun p hp => by
    have e0 : rgV 0 ((n : Nat) : Int) = (List.range n).map fun d => V.int (d : Nat) := by
      unfold rgV
      rw [Int.sub_zero, Int.toNat_natCast]
      exact List.map_congr_left fun i _ => by rw [Int.zero_add]
    rw [e0]
    exact q p _ (fresh_back e2 hp) (e2.trans (Ex.new hp)) upd_same⟩
theorem ones_all (p : List Bool) : IsAll K H (onesV p) ((ones p).map fun (i : Nat) => cI ((i : Nat) : Int)) := by
  have := vals_pr (K := K) (H := H) (onesV p)
  unfold onesV at this ⊢
  rw [List.map_map] at this
  exact this
end
end Bm
namespace Bm
open PySem PySem.Spec PyProof.Rows L2 Evl
/-! ### text[::-1] -/
def tRevS (te : TE) : TE := fun σ H Q => te σ H fun x H1 => ∃ z, x = .str z ∧ z.length ≤ 1000 ∧ ∀ z' : PySem.Str, (∀ c ∈ z'.cps.toList, c ∈ z.cps.toList) → z'.length = z.length → Q (.str z') H1
theorem pe_revS {X : Cx} {e : Expr} {te : TE} {k : Nat} {p1 p2 p3 pos : Pos} (he : PE X e te) : PE X (.Subscript e (.Slice none none (some (.UnaryOp .USub (.Constant (.int 1) k p1) p2)) p3) pos) (tRevS te) := by
  refine ⟨fun pins s σ H Q I h => ?_⟩
  refine Subscript_ (thn (he.run pins s σ H _ I h) fun v s1 ⟨x, H1, I1, r1, q1⟩ => ?_)
  obtain ⟨z, rfl, hz, q⟩ := q1
  obtain ⟨t, rfl⟩ := r1
  have hst : PO X (some (.UnaryOp .USub (.Constant (.int 1) k p1) p2)) (tPart (tUn (rU fun i => .int (-i)) (tC (.int 1)))) := po_some (pe_un un_neg pe_int)
  refine wpAny_Slice (thn (po_none.run pins s1 σ H1 (fun o H2 => o = none ∧ H2 = H1) I1 ⟨rfl, rfl⟩) fun vl s2 ⟨l, H2, I2, pl, el, e2⟩ => ?_)
  subst el e2
  refine thn (po_none.run pins s2 σ H2 (fun o H3 => o = none ∧ H3 = H2) I2 ⟨rfl, rfl⟩) fun vu s3 ⟨u, H3, I3, pu, eu, e3⟩ => ?_
  subst eu e3
  refine thn (hst.run pins s3 σ H3 (fun o H4 => o = some (-1) ∧ H4 = H3) I3 ⟨1, rfl, -1, rfl, rfl, rfl⟩) fun vs s4 ⟨o, H4, I4, ps, eo, e4⟩ => ?_
  subst eo e4
  have I5 : Inv X pins σ H4 { s4 with heap := s4.heap.push { cls := .type "slice", data := .fields #[vl, vu, vs] } } := I4.kept (t' := s4.toks) fun b ob q => Heap.get?_push_of_some _ q
  show wpAny (model X.prog X.w) X.A (subscriptTail e (.Slice none none (some (.UnaryOp .USub (.Constant (.int 1) k p1) p2)) p3) (.str z t) (.ref s4.heap.objs.size)) (EP X pins σ Q) X.xe { s4 with heap := s4.heap.push { cls := .type "slice", data := .fields #[vl, vu, vs] } }
  refine tail_any (ops := [.ref s4.heap.objs.size, .str z t]) (typeIs_str _ _ _) (F.slot_str_getitem.lookup) ?_ (by with_unfolding_all rfl)
  have hsl : (s4.heap.push { cls := .type "slice", data := .fields #[vl, vu, vs] }).IsSliceOf s4.heap.objs.size vl vu vs := Heap.IsSliceOf.new ..
  obtain ⟨l0, rfl, hl0⟩ := IsPart.raw pl
  obtain ⟨u0, rfl, hu0⟩ := IsPart.raw pu
  obtain ⟨st, rfl, hs0⟩ := IsPart.raw ps
  obtain ⟨os, hos, hcs, hds⟩ := hsl
  refine wpAny_getItem_str_slice (l := l0) (u := u0) (st := st) ⟨os, hos, hcs, hds⟩ (by rw [hs0]; rfl) ?_
  have hpick : slicePicked z l0 u0 st = (List.range z.length).map fun k => z.length - 1 - k := by
    unfold slicePicked
    rw [hl0, hu0, hs0]
    exact picked_rev _
  unfold sliceMade
  have h1 : ((st.map (·.1)).getD 1 == 1) = false := by rw [hs0]; rfl
  rw [hpick, h1, Bool.false_and, if_neg Bool.false_ne_true]
  have hlt : ∀ i ∈ (List.range z.length).map (fun k => z.length - 1 - k), i < z.cps.size := fun i hi => by
    obtain ⟨k, hk, rfl⟩ := List.mem_map.mp hi
    have hk : k < z.length := List.mem_range.mp hk
    show z.length - 1 - k < z.length
    omega
  rw [filterMap_get z.cps _ hlt]
  have hlen : (⟨((((List.range z.length).map fun k => z.length - 1 - k)).map (z.cps.getD · 0)).toArray⟩ : PySem.Str).length = z.length := by
    show (((((List.range z.length).map fun k => z.length - 1 - k)).map (z.cps.getD · 0)).toArray).size = z.length
    simp
  refine ⟨by rw [hlen]; exact szl hz, .str _, H4, I5.tok _, ⟨_, rfl⟩, q _ (fun c hc => ?_) hlen⟩
  have hc : c ∈ (((List.range z.length).map fun k => z.length - 1 - k)).map (z.cps.getD · 0) := hc
  obtain ⟨i, hi, rfl⟩ := List.mem_map.mp hc
  have hi := hlt i hi
  have e : z.cps.getD i 0 = z.cps[i] := by simp [Array.getD, hi]
  rw [e]
  exact Array.getElem_mem_toList hi
end Bm
namespace Bm
open PySem PySem.Spec PyProof.Rows L2 Evl
/-! ### papers, by the law's own look -/
def lacksM (p : List Bool) : List Nat := (List.range p.length).filter fun d => !hasD p d
theorem lacks_head (p : List Bool) : (lacksM p).head? = lackM p := by
  unfold lacksM lackM
  rw [List.head?_filter]
theorem lacks_in {p : List Bool} {b : Int} : (b ∈ (lacksM p).map fun d => ((d : Nat) : Int)) ↔ goodBy p b = true := by
  unfold lacksM goodBy
  rw [List.mem_map, Bool.and_eq_true, Bool.and_eq_true]
  constructor
  · rintro ⟨d, hd, rfl⟩
    obtain ⟨h1, h2⟩ := List.mem_filter.mp hd
    have h1 := List.mem_range.mp h1
    rw [Int.toNat_natCast]
    exact ⟨⟨decide_eq_true (by omega), decide_eq_true (by omega)⟩, h2⟩
  · rintro ⟨⟨h1, h2⟩, h3⟩
    have h1 := of_decide_eq_true h1
    have h2 := of_decide_eq_true h2
    exact ⟨b.toNat, List.mem_filter.mpr ⟨List.mem_range.mpr (by omega), h3⟩, by omega⟩
theorem beg_upto (n m : Nat) (hm : 1 ≤ m) : ∀ k, (((uptoP n k).filter fun x => decide (x.1 = m) && x.2.getD 0 false).map Prod.snd) = if m ≤ k then begM n m else []
  | 0 => by
    rw [if_neg (by omega)]
    rfl
  | k + 1 => by
    rw [uptoP_succ, List.filter_append, List.map_append, beg_upto n m hm k, List.filter_map, List.map_map]
    by_cases c : m = k + 1
    · rw [if_neg (by omega), if_pos (by omega), List.nil_append, c]
      unfold begM
      have e1 : (Prod.snd ∘ fun t : List Bool => (k + 1, t)) = id := rfl
      rw [e1, List.map_id]
      refine List.filter_congr fun p _ => ?_
      show (decide (k + 1 = k + 1) && p.getD 0 false) = p.getD 0 false
      rw [decide_eq_true rfl, Bool.true_and]
    · have e1 : (allOf n (k + 1)).filter ((fun x : Pn => decide (x.1 = m) && x.2.getD 0 false) ∘ fun t => (k + 1, t)) = [] := by
        rw [List.filter_eq_nil_iff]
        intro p _
        show ¬ (decide (k + 1 = m) && p.getD 0 false) = true
        rw [decide_eq_false (by omega), Bool.false_and]
        exact Bool.false_ne_true
      rw [e1]
      by_cases c2 : m ≤ k
      · rw [if_pos c2, if_pos (by omega), List.map_nil, List.append_nil]
      · rw [if_neg c2, if_neg (by omega)]
        rfl
theorem beg_all {n m : Nat} (hm : 1 ≤ m) (hmn : m ≤ n) : (((allP n).filter fun x => decide (x.1 = m) && x.2.getD 0 false).map Prod.snd) = begM n m := by
  have := beg_upto n m hm n
  rw [if_pos hmn] at this
  exact this
section
variable {K : PySem.W.Frag} {σ : L2.St} {H : Hp} {ta tb te tl : TE} {t : TT}
/-- a comprehension with two names, over a new list of pairs -/
theorem en_lcP2 {α : Type} {as : List α} {x1 x2 : α → V} {i j : Nat} {vs : List Nat} (F : α → Bool) (G : α → Cel) (h : EvN K tl σ H (as.map fun a => Cel.t [x1 a, x2 a])) (hz : as.length ≤ 40000) (hw : ∀ x y, wipe (((wipe σ vs).set i (some x)).set j (some y)) vs = wipe σ vs)
    (ht : ∀ a ∈ as, ∀ H1, Ex H H1 → EvT t (((wipe σ vs).set i (some (x1 a))).set j (some (x2 a))) H1 (F a)) (he : ∀ a ∈ as, ∀ H1, Ex H H1 → F a = true → EvC K te (((wipe σ vs).set i (some (x1 a))).set j (some (x2 a))) H1 (G a)) :
    EvN K (tLc (iList K tl) (gTup K 2 (gCons (gName i) (gCons (gName j) gNil))) t te vs) σ H ((as.filter F).map G) := fun H0 e Q q => h H0 e _ fun a xs H1 ha e1 hx hc => ⟨a, rfl, ⟨xs, sq_of hx⟩, fun Dl hD =>
  lc_list (xs := xs) (Cv K H1 (fun i => (as[i]?.map F).getD true) (fun i => (as[i]?.map G).getD (.v .non)) Dl) ⟨hD, Ex.new hD, [], upd_same, .nil⟩ (fun i H' _ p => sq_of (p.2.1 a _ hx)) (fun m x H' hi p => by
    obtain ⟨c, hci, hic⟩ := pr_get hc hi
    obtain ⟨b, hb, hbm, rfl⟩ := at_map hci
    refine g_cell2 (K := K) (hic.up p.2.1) ⟨hw _ _, cv_turn p (by have := (List.getElem?_eq_some_iff.mp hb).1; omega) ?_ (fun hf => ?_)⟩
    · show EvT t _ H1 ((as[m]?.map F).getD true)
      rw [hb]
      exact ht b hbm H1 (e.trans e1)
    · have hf : (as[m]?.map F).getD true = true := hf
      show EvC K te _ H1 ((as[m]?.map G).getD (.v .non))
      rw [hb] at hf ⊢
      exact he b hbm H1 (e.trans e1) hf)
    (fun H' p => by
      obtain ⟨p1, p2, ys, p3, p4⟩ := p
      have : xs.length = as.length := by rw [pr_len hc, List.length_map]
      rw [this, givenC_items] at p4
      exact q Dl ys H' (fresh_back e1 p1) (e1.trans p2) p3 p4)⟩
end
end Bm
namespace Bm
open PySem PySem.Spec PyProof.Rows L2 Evl
/-! ### the text -/
def topS (i : Nat) : Stmt := PySem.Challenge.pw_beaconmeet_k07_whole_papers.main.body.getD i (.Pass ⟨0, 0, 0, 0⟩)
end Bm
namespace Bm
open PySem PySem.Spec PyProof.Rows L2 Evl
section
variable {P : Program} {w : World} {K : PySem.W.Frag} {mg : PySem.Str → Option Value} {base : Heap}
/-! ### need_beats -/
abbrev s_need_beats : Stmt := topS 7
theorem sc_need_beats : FnScope ["beats"] ["beats"] (defScope s_need_beats) := ⟨rfl, rfl, rfl, by decide +kernel, rfl, by decide +kernel, by decide +kernel⟩
def spNeedB : Sp := fun vs H Q _ => ∃ n : Nat, vs = [.int (n : Nat)] ∧ 1 ≤ n ∧ n ≤ 12 ∧ RetV .non H Q
theorem ok_need_beats (D : Def1 K mg "need_beats" s_need_beats) (B : Bl mg) (g_MOST_BEATS : ∃ t, mg "MOST_BEATS" = some (.int 12 t)) : Cal P w K mg base 1 "need_beats" ["beats"] spNeedB := by
  refine D.cal sc_need_beats (fun _ _ _ _ _ _ us hl => match us, hl with | [_], _ => rfl) (fun vs H Q E h => ?_) (fun f cdv A outer s H vs Q E hr h => ?_)
  · obtain ⟨n, rfl, _⟩ := h
    rfl
  · obtain ⟨n, rfl, h1, h2, k⟩ := h
    refine ⟨_, (pss_one (ps_if (pt_not (pt_chain op_le op_le pe_int (pv 0) (pe_gI g_MOST_BEATS))) pss_never
 pss_nil)), ?_⟩
    refine s_when (b := false) (et_is (et_not (et_test (ev_chain (K := K) ev_c (ev_var rfl) ev_c rv_I0 rv_I0))) ?_) (fun hb => nomatch hb) (fun _ H2 e2 => k H2 e2)
    have a1 : decide ((1 : Int) ≤ (n : Nat)) = true := decide_eq_true (by omega)
    have a2 : decide (((n : Nat) : Int) ≤ 12) = true := decide_eq_true (by omega)
    show (!(decide ((1 : Int) ≤ (n : Nat)) && decide (((n : Nat) : Int) ≤ 12))) = false
    rw [a1, a2]
    rfl
/-! ### awake_of -/
abbrev s_awake_of : Stmt := topS 8
theorem sc_awake_of : FnScope ["pattern", "at"] ["pattern"] (defScope s_awake_of) := ⟨rfl, rfl, rfl, by decide +kernel, rfl, by decide +kernel, by decide +kernel⟩
theorem ok_awake_of (D : Def1 K mg "awake_of" s_awake_of) (B : Bl mg) (g_AWAKE : ∃ t, mg "AWAKE" = some (.str "1" t)) : Cal P w K mg base 1 "awake_of" ["pattern"] spOnes := by
  refine D.cal sc_awake_of (fun _ _ _ _ _ _ us hl => match us, hl with | [_], _ => rfl) (fun vs H Q E h => ?_) (fun f cdv A outer s H vs Q E hr h => ?_)
  · obtain ⟨p, rfl, _⟩ := h
    rfl
  · obtain ⟨p, rfl, hp, k⟩ := h
    refine ⟨_, (pss_one (ps_ret (pe_lc (own := [("at", 1)]) (g := gName 1) rfl sc_awake_of.nd (pi_range1 (by rfl) B.range (pa_cons (pe_callB call_len_str (by rfl) B.len PySem.boot_len (pa_cons (pv 0) pa_nil)) pa_nil)) (blkOk_by (N := ["pattern", "at"]) (sc := defScope s_awake_of) (by decide +kernel)) (fun _ _ _ _ _ => (pg_name (i := 1) sc_awake_of.nd rfl (Or.inl rfl))) (fun _ _ _ _ _ => (pts_one (pt_cmpR op_eq (pe_ix ix_str (pv 0) (pv 1) (fun _ _ => rfl)) (pe_gS g_AWAKE) (nomark _)))) (fun _ _ _ _ _ => (pv 1))))), ?_⟩
    refine s_retL (el_lcR1 (n := ((p.length : Nat) : Int)) (fun i => p.getD i false) (fun i => .int (i : Nat)) (ea_cons (ev_lenS (ev_var rfl) hp) ea_nil) (by omega) (fun _ => rfl) (fun i H1 e1 hi => ?_) (fun i H1 e1 hi _ => ev_var rfl)) fun a H1 ha e1 h1 => k a H1 ha e1 h1
    exact et_test (ev_is1 (ev_ixP (ev_var rfl) (ev_var rfl) (by omega) hp) ev_c)
end
end Bm
namespace Bm
open PySem PySem.Spec PyProof.Rows L2 Evl
section
variable {P : Program} {w : World} {K : PySem.W.Frag} {mg : PySem.Str → Option Value} {base : Heap}
/-! ### all_of -/
abbrev s_all_of : Stmt := topS 9
theorem sc_all_of : FnScope ["beats", "many", "found", "at", "longer", "text", "ones"] ["beats", "many"] (defScope s_all_of) := ⟨rfl, rfl, rfl, by decide +kernel, rfl, by decide +kernel, by decide +kernel⟩
def spAllOf : Sp := fun vs H Q _ => ∃ n m : Nat, vs = [.int (n : Nat), .int (m : Nat)] ∧ n ≤ 12 ∧ m ≤ n ∧ RetL (txV (allOf n m)) H Q
theorem ok_all_of (D : Def1 K mg "all_of" s_all_of) (B : Bl mg) (g_AWAKE : ∃ t, mg "AWAKE" = some (.str "1" t)) (g_ASLEEP : ∃ t, mg "ASLEEP" = some (.str "0" t)) : Cal P w K mg base 1 "all_of" ["beats", "many"] spAllOf := by
  refine D.cal sc_all_of (fun _ _ _ _ _ _ us hl => match us, hl with | [_, _], _ => rfl) (fun vs H Q E h => ?_) (fun f cdv A outer s H vs Q E hr h => ?_)
  · obtain ⟨n, m, rfl, _⟩ := h
    rfl
  · obtain ⟨n, m, rfl, hn, hm, k⟩ := h
    refine ⟨_, (pss_cons (ps_set (i := 2) sc_all_of.nd rfl (Or.inl rfl) (pe_lst (pa_cons pe_str pa_nil)))
 (pss_cons (ps_for PassesOwn.never rfl (pi_range1 (by rfl) B.range (pa_cons (pv 0) pa_nil)) (pg_name (i := 3) sc_all_of.nd rfl (Or.inl rfl))
 (pss_cons (ps_set (i := 4) sc_all_of.nd rfl (Or.inl rfl) (pe_lst pa_nil))
 (pss_cons (ps_for PassesOwn.never rfl (pi_list (pv 2)) (pg_name (i := 5) sc_all_of.nd rfl (Or.inl rfl))
 (pss_cons (ps_set (i := 6) sc_all_of.nd rfl (Or.inl rfl) (pe_m1 PySem.F.slot_str_count PySem.F.type_str_count mt_count (pv 5) (pe_gS g_AWAKE)))
 (pss_cons (ps_if (pt_cmpR op_lt (pe_op op_sub (pv 1) (pv 6)) (pe_op op_sub (pv 0) (pv 3)) (nomark _)) (pss_one (ps_expr (pe_bm PySem.F.plainAttrs_list PySem.F.slot_list_append PySem.F.type_list_append mt_append (pv 4) (pa_cons (pe_op op_add_str (pv 5) (pe_gS g_ASLEEP)) pa_nil))))
 pss_nil)
 (pss_one (ps_if (pt_cmpR op_lt (pv 6) (pv 1) (nomark _)) (pss_one (ps_expr (pe_bm PySem.F.plainAttrs_list PySem.F.slot_list_append PySem.F.type_list_append mt_append (pv 4) (pa_cons (pe_op op_add_str (pv 5) (pe_gS g_AWAKE)) pa_nil))))
 pss_nil)))))
 (pss_one (ps_set (i := 2) sc_all_of.nd rfl (Or.inl rfl) (pv 4))))))
 (pss_one (ps_ret (pv 2))))), ?_⟩
    refine q_asgL (xs := [.str ""]) (el_lst (ea_cons ev_c ea_nil) (by show 1 ≤ 100000; decide)) fun F0 H1 hF0 e1 h1 => ?_
    refine q_forR1 (n := ((n : Nat) : Int)) (ea_cons (ev_var rfl) ea_nil) (by omega)
      (fun j σ H' => (∃ FL y3 y4 y5 y6, σ = [some (.int (n : Nat)), some (.int (m : Nat)), some (.ref FL), y3, y4, y5, y6] ∧ H FL = none ∧ H' FL = some (.lst (txV (stg n m j)))) ∧ Ex H H')
      (fun H2 e2 => ⟨⟨F0, _, _, _, _, rfl, hF0, by rw [stg_zero hm]; exact e2 _ _ h1⟩, e1.trans e2⟩) (fun j σ' H' hj pr => ?_) (fun σ' H' pr => ?_)
    · obtain ⟨⟨FL, y3, y4, y5, y6, rfl, hFL, hF⟩, e⟩ := pr
      have hj' : j < n := by omega
      refine q_asgL (xs := []) (el_lst ea_nil (Nat.zero_le _)) fun LL H2 hLL e2 h2 => ?_
      have hne : FL ≠ LL := ne_of_none hF hLL
      have hLL0 : H LL = none := fresh_back e hLL
      refine q_forL (K := K) (a := FL) (xs := txV (stg n m j)) (ev_var rfl) (sq_of (e2 _ _ hF))
        (fun i σ H3 => (∃ y5 y6, σ = [some (.int (n : Nat)), some (.int (m : Nat)), some (.ref FL), some (.int (j : Nat)), some (.ref LL), y5, y6]) ∧ Ex H H3 ∧ H3 FL = some (.lst (txV (stg n m j))) ∧ H3 LL = some (.lst (txV (((stg n m j).take i).flatMap (kids n m j)))))
        (fun H3 e3 => ⟨⟨_, _, rfl⟩, (e.trans e2).trans e3, e3 _ _ (e2 _ _ hF), e3 _ _ h2⟩) (fun i σ3 H3 _ pr => sq_of pr.2.2.1) (fun i x σ3 H3 hx pr => ?_) (fun σ3 H3 pr => ?_)
      · obtain ⟨⟨y5, y6, rfl⟩, e3, hF3, hL3⟩ := pr
        have hi : i < (stg n m j).length := by
          have := (List.getElem?_eq_some_iff.mp hx).1
          rw [List.length_map] at this
          exact this
        have hx : x = .str (txt (stg n m j)[i]) := by
          rw [List.getElem?_map, List.getElem?_eq_getElem hi] at hx
          exact (Option.some.inj hx).symm
        subst hx
        have hst : (stg n m j).take (i + 1) = (stg n m j).take i ++ [(stg n m j)[i]] := by
          rw [List.take_add_one, List.getElem?_eq_getElem hi]
          rfl
        obtain ⟨t1, t2, t3⟩ := stg_mem (List.getElem_mem hi)
        generalize (stg n m j)[i] = t at hst t1 t2 t3
        have hfl : (((stg n m j).take i).flatMap (kids n m j)).length ≤ 10000 := by
          have h1 : ∀ l : List (List Bool), (l.flatMap (kids n m j)).length ≤ l.length * 2 := by
            intro l
            induction l with
            | nil => exact Nat.le_refl _
            | cons a l ih =>
              rw [List.flatMap_cons, List.length_append, List.length_cons]
              have : (kids n m j a).length ≤ 2 := by
                unfold kids
                split <;> split <;> simp
              omega
          have h2 := h1 ((stg n m j).take i)
          have h3 := stg_len (n := n) (m := m) (k := j) (by omega)
          rw [List.length_take] at h2
          omega
        show tSeq _ _ _ _ _
        refine q_asg (v := .int (ct t : Nat)) (ev_count (ev_var rfl) ev_c) fun H4 e4 => ?_
        have hk : kids n m j t = (if m + j < n + ct t then [t ++ [false]] else []) ++ (if ct t < m then [t ++ [true]] else []) := rfl
        -- the second one
        have fin : ∀ (H5 : Hp) (xs : List (List Bool)), Ex H H5 → H5 FL = some (.lst (txV (stg n m j))) → H5 LL = some (.lst (txV xs)) → xs.length ≤ 10001 → (xs ++ (if ct t < m then [t ++ [true]] else []) = ((stg n m j).take (i + 1)).flatMap (kids n m j)) → ∀ EE : Ends, EE.nx = (fun σ H3 => (∃ y5 y6, σ = [some (.int (n : Nat)), some (.int (m : Nat)), some (.ref FL), some (.int (j : Nat)), some (.ref LL), y5, y6]) ∧ Ex H H3 ∧ H3 FL = some (.lst (txV (stg n m j))) ∧ H3 LL = some (.lst (txV (((stg n m j).take (i + 1)).flatMap (kids n m j))))) →
            tIfS (tTest (tOp (rI0 fun i j => .bl (decide (i < j))) (tVar 6) (tVar 1))) (tDrop (tBM K "list" rAppend (tVar 4) (tCons (tOp rAddS (tVar 5) (tC (.str "1"))) tNil))) tNext EE [some (.int (n : Nat)), some (.int (m : Nat)), some (.ref FL), some (.int (j : Nat)), some (.ref LL), some (.str (txt t)), some (.int (ct t : Nat))] H5 := fun H5 xs e5 hF5 hL5 hxs hq EE hEE => by
          refine s_when (b := decide (ct t < m)) (et_is (et_test (ev_op (ev_var rfl) (ev_var rfl) rv_I0)) (decide_eq_decide.mpr (by omega))) (fun hb H6 e6 => ?_) (fun hb H6 e6 => ?_)
          · rw [if_pos (of_decide_eq_true hb)] at hq
            have h1 : ∀ H7, Ev (tC (.str "1")) [some (.int (n : Nat)), some (.int (m : Nat)), some (.ref FL), some (.int (j : Nat)), some (.ref LL), some (.str (txt t)), some (.int (ct t : Nat))] H7 (.str (txt [true])) := fun _ => ev_c
            refine s_app (K := K) (e6 _ _ hL5) (ev_var rfl) (v := .str (txt (t ++ [true]))) (ev_addS (ev_var rfl) (h1 _) (by simp; omega)) (by rw [List.length_map]; omega) fun H7 e7 => ?_
            rw [hEE]
            refine ⟨⟨_, _, rfl⟩, Ex.mut ((e5.trans e6).trans e7) hLL0, by rw [upd_ne hne]; exact e7 _ _ (e6 _ _ hF5), ?_⟩
            rw [upd_same, ← hq]
            simp [txV]
          · rw [if_neg (of_decide_eq_false hb), List.append_nil] at hq
            rw [hEE]
            exact ⟨⟨_, _, rfl⟩, e5.trans e6, e6 _ _ hF5, by rw [← hq]; exact e6 _ _ hL5⟩
        have hq : ((stg n m j).take (i + 1)).flatMap (kids n m j) = ((stg n m j).take i).flatMap (kids n m j) ++ kids n m j t := by
          rw [hst, List.flatMap_append]
          simp
        refine q_when (b := decide (m + j < n + ct t)) (et_is (et_test (ev_op (ev_op (ev_var rfl) (ev_var rfl) rv_I0) (ev_op (ev_var rfl) (ev_var rfl) rv_I0) rv_I0)) (decide_eq_decide.mpr (by omega))) (fun hb H5 e5 => ?_) (fun hb H5 e5 => ?_)
        · have h0 : ∀ H7, Ev (tC (.str "0")) [some (.int (n : Nat)), some (.int (m : Nat)), some (.ref FL), some (.int (j : Nat)), some (.ref LL), some (.str (txt t)), some (.int (ct t : Nat))] H7 (.str (txt [false])) := fun _ => ev_c
          refine s_app (K := K) (e5 _ _ (e4 _ _ hL3)) (ev_var rfl) (v := .str (txt (t ++ [false]))) (ev_addS (ev_var rfl) (h0 _) (by simp; omega)) (by rw [List.length_map]; omega) fun H6 e6 => ?_
          refine fin _ (((stg n m j).take i).flatMap (kids n m j) ++ [t ++ [false]]) (Ex.mut (((e3.trans e4).trans e5).trans e6) hLL0) (by rw [upd_ne hne]; exact e6 _ _ (e5 _ _ (e4 _ _ hF3))) (by rw [upd_same]; simp [txV]) (by rw [List.length_append]; show _ + 1 ≤ 10001; omega) ?_ _ rfl
          rw [hq, hk, if_pos (of_decide_eq_true hb)]
          simp
        · refine fin _ (((stg n m j).take i).flatMap (kids n m j)) ((e3.trans e4).trans e5) (e5 _ _ (e4 _ _ hF3)) (e5 _ _ (e4 _ _ hL3)) (by omega) ?_ _ rfl
          rw [hq, hk, if_neg (of_decide_eq_false hb)]
          simp
      · obtain ⟨⟨y5, y6, rfl⟩, e3, hF3, hL3⟩ := pr
        have e0 : ((stg n m j).take (txV (stg n m j)).length).flatMap (kids n m j) = stg n m (j + 1) := by
          rw [List.take_of_length_le (by simp), stg_succ]
        rw [e0] at hL3
        exact s_asg (v := .ref LL) (ev_var rfl) fun H4 e4 => ⟨⟨LL, _, _, _, _, rfl, hLL0, e4 _ _ hL3⟩, e3.trans e4⟩
    · obtain ⟨⟨FL, y3, y4, y5, y6, rfl, hFL, hF⟩, e⟩ := pr
      have hF : H' FL = some (.lst (txV (allOf n m))) := by
        rw [← stg_end]
        exact hF
      exact s_ret (v := .ref FL) (ev_var rfl) fun H2 e2 => k FL H2 hFL (e.trans e2) (e2 _ _ hF)
end
end Bm
namespace Bm
open PySem PySem.Spec PyProof.Rows L2 Evl
section
variable {P : Program} {w : World} {K : PySem.W.Frag} {mg : PySem.Str → Option Value} {base : Heap}
/-! ### lacking -/
abbrev s_lacking : Stmt := topS 11
theorem sc_lacking : FnScope ["pattern", "some", "by", "at"] ["pattern"] (defScope s_lacking) := ⟨rfl, rfl, rfl, by decide +kernel, rfl, by decide +kernel, by decide +kernel⟩
def spLack : Sp := fun vs H Q _ => ∃ p : List Bool, vs = [.str (txt p)] ∧ (0 < p.length ∧ p.length ≤ 100) ∧ RetV (oV (lackM p)) H Q
theorem ok_lacking (D : Def1 K mg "lacking" s_lacking) (B : Bl mg) (c_awake_of : Cal P w K mg base 1 "awake_of" ["pattern"] spOnes) : Cal P w K mg base 2 "lacking" ["pattern"] spLack := by
  refine D.cal sc_lacking (fun _ _ _ _ _ _ us hl => match us, hl with | [_], _ => rfl) (fun vs H Q E h => ?_) (fun f cdv A outer s H vs Q E hr h => ?_)
  · obtain ⟨p, rfl, _⟩ := h
    rfl
  · obtain ⟨p, rfl, ⟨hp, hp2⟩, k⟩ := h
    refine ⟨_, (pss_cons (ps_set (i := 1) sc_lacking.nd rfl (Or.inr rfl) (pe_callC c_awake_of hr (by decide) (pa_cons (pv 0) pa_nil)))
 (pss_cons (ps_for PassesOwn.never rfl (pi_range1 (by rfl) B.range (pa_cons (pe_callB call_len_str (by rfl) B.len PySem.boot_len (pa_cons (pv 0) pa_nil)) pa_nil)) (pg_name (i := 2) sc_lacking.nd rfl (Or.inr rfl))
 (pss_one (ps_if (pt_cmpR (op_eqD hr.units) (pe_lc (own := [("at", 3)]) (g := gName 3) rfl sc_lacking.nd (pi_list (pv 1)) (blkOk_by (N := ["pattern", "some", "by", "at"]) (sc := defScope s_lacking) (by decide +kernel)) (fun _ _ _ _ _ => (pg_name (i := 3) sc_lacking.nd rfl (Or.inl rfl))) (fun _ _ _ _ _ => (pts_one (pt_cmpR (r := rIn K false) op_in_seq (pe_op op_mod (pe_op op_add (pv 3) (pv 2)) (pe_callB call_len_str (by rfl) B.len PySem.boot_len (pa_cons (pv 0) pa_nil))) (pv 1) (by rfl)))) (fun _ _ _ _ _ => (pv 3))) (pe_lst pa_nil) (nomark _)) (pss_one (ps_ret (pv 2)))
 pss_nil)))
 (pss_one (ps_ret pe_non)))), ?_⟩
    have hol := onesV_len p
    refine q_asgL (xs := onesV p) (el_call (ea_cons (ev_var rfl) ea_nil) fun H1 e Q k E => ⟨p, rfl, by omega, k⟩) fun S H1 hS e1 h1 => ?_
    refine q_forR1 (n := ((p.length : Nat) : Int)) (ea_cons (ev_lenS (p := p) (ev_var rfl) (by omega)) ea_nil) (by omega)
      (fun d σ H' => (∃ y2, σ = [some (.str (txt p)), some (.ref S), y2, none]) ∧ Ex H1 H' ∧ ∀ d', d' < d → hasD p d' = true)
      (fun H2 e2 => ⟨⟨_, rfl⟩, e2, fun d' h => absurd h (Nat.not_lt_zero _)⟩) (fun d σ' H' hd pr => ?_) (fun σ' H' pr => ?_)
    · obtain ⟨⟨y2, rfl⟩, e2, hm⟩ := pr
      have hd' : d < p.length := by omega
      have en := en_lcTL (K := K) (as := ones p) (c := fun (i : Nat) => cI ((i : Nat) : Int)) (t := tTest (tOp (rIn K false) (tOp (rI (fun _ j => 0 < j) fun i j => .int (i % j)) (tOp (rI0 fun i j => .int (i + j)) (tVar 3) (tVar 2)) (tCB rLenStr (tCons (tVar 0) tNil))) (tVar 1))) (te := tVar 3) (tl := tVar 1) (a := S) (xs := onesV p) (j := 3) (vs := [3]) (σ := [some (.str (txt p)), some (.ref S), some (.int (d : Nat)), none]) (H := H') (fun i => aw p (i + d)) (fun (i : Nat) => cI ((i : Nat) : Int)) (ev_var rfl) (sq_of (e2 _ _ h1)) (ones_all p) (by
          have : (onesV p).length = (ones p).length := by unfold onesV; rw [List.length_map]
          omega) (fun _ => rfl) (fun i hi x H3 e3 ix => by
          have hx : x = .int (i : Nat) := ix
          subst hx
          refine et_is (et_test (ev_op (ev_modN (ev_addN (ev_var rfl) (ev_var rfl)) (ev_lenS (p := p) (ev_var rfl) (by omega)) hp) (ev_var rfl) (rv_isL (K := K) (sq_of (e3 _ _ (e2 _ _ h1))) rfl (onesV_flat p)))) ?_
          exact in_onesV hp (i + d)) (fun i hi x H3 e3 ix _ => by
          have hx : x = .int (i : Nat) := ix
          subst hx
          exact ec_ev (ev_var rfl))
      have hT := et_test (ev_nilN (K := K) en (by rw [List.all_map, List.all_eq_true]; intro _ _; rfl))
      have e0 : (((ones p).filter fun i => aw p (i + d)).map fun (i : Nat) => cI ((i : Nat) : Int)).isEmpty = !hasD p d := by
        rw [List.isEmpty_map]
        unfold hasD
        cases h : (ones p).any fun i => aw p (i + d) with
        | true =>
          obtain ⟨i, hi, ha⟩ := List.any_eq_true.mp h
          have : i ∈ (ones p).filter fun i => aw p (i + d) := List.mem_filter.mpr ⟨hi, ha⟩
          cases hl : (ones p).filter fun i => aw p (i + d) with
          | nil => rw [hl] at this; cases this
          | cons _ _ => rfl
        | false =>
          have : (ones p).filter (fun i => aw p (i + d)) = [] := by
            rw [List.filter_eq_nil_iff]
            intro i hi ha
            have : (ones p).any (fun i => aw p (i + d)) = true := List.any_eq_true.mpr ⟨i, hi, ha⟩
            rw [h] at this
            cases this
          rw [this]
          rfl
      rw [e0] at hT
      refine s_when hT (fun hb H3 e3 => ?_) (fun hb H3 e3 => ?_)
      · have hf : lackM p = some d := find_range_is hd' hb fun i hi => by rw [hm i hi]; rfl
        refine s_ret (v := .int (d : Nat)) (ev_var rfl) fun H4 e4 => ?_
        have := k H4 (((e1.trans e2).trans e3).trans e4)
        rw [hf] at this
        exact this
      · refine ⟨⟨_, rfl⟩, e2.trans e3, fun d' hd2 => ?_⟩
        by_cases c : d' < d
        · exact hm d' c
        · have : d' = d := by omega
          rw [this]
          simpa using hb
    · obtain ⟨⟨y2, rfl⟩, e2, hm⟩ := pr
      have hf : lackM p = none := lack_none.mpr fun d hd => hm d (by omega)
      refine s_ret (v := .non) ev_c fun H3 e3 => ?_
      have := k H3 ((e1.trans e2).trans e3)
      rw [hf] at this
      exact this
/-! ### fewest -/
abbrev s_fewest : Stmt := topS 12
theorem sc_fewest : FnScope ["beats", "many", "pattern"] ["beats"] (defScope s_fewest) := ⟨rfl, rfl, rfl, by decide +kernel, rfl, by decide +kernel, by decide +kernel⟩
def spFew (K : PySem.W.Frag) : Sp := fun vs H Q _ => ∃ n : Nat, vs = [.int (n : Nat)] ∧ (1 ≤ n ∧ n ≤ 12) ∧ RetC K (cPart (fewestM n)) H Q
theorem ok_fewest (D : Def1 K mg "fewest" s_fewest) (B : Bl mg) (c_need_beats : Cal P w K mg base 1 "need_beats" ["beats"] spNeedB) (c_all_of : Cal P w K mg base 1 "all_of" ["beats", "many"] spAllOf) (c_lacking : Cal P w K mg base 2 "lacking" ["pattern"] spLack) :
    Cal P w K mg base 3 "fewest" ["beats"] (spFew K) := by
  refine D.cal sc_fewest (fun _ _ _ _ _ _ us hl => match us, hl with | [_], _ => rfl) (fun vs H Q E h => ?_) (fun f cdv A outer s H vs Q E hr h => ?_)
  · obtain ⟨n, rfl, _⟩ := h
    rfl
  · obtain ⟨n, rfl, ⟨hn1, hn2⟩, k⟩ := h
    refine ⟨_, (pss_cons (ps_expr (pe_callC c_need_beats hr (by decide) (pa_cons (pv 0) pa_nil)))
 (pss_cons (ps_for PassesOwn.never rfl (pi_range2 (by rfl) B.range (pa_cons pe_int (pa_cons (pe_op op_add (pv 0) pe_int) pa_nil))) (pg_name (i := 1) sc_fewest.nd rfl (Or.inl rfl))
 (pss_one (ps_for PassesOwn.never rfl (pi_list (pe_callC c_all_of hr (by decide) (pa_cons (pv 0) (pa_cons (pv 1) pa_nil)))) (pg_name (i := 2) sc_fewest.nd rfl (Or.inl rfl))
 (pss_one (ps_if (pt_cmpR op_isN (pe_callC c_lacking hr (by decide) (pa_cons (pv 2) pa_nil)) pe_non (nomark _)) (pss_one (ps_ret (pe_tup (pa_cons (pv 1) (pa_cons (pv 2) pa_nil)))))
 pss_nil)))))
 (pss_one (ps_ret pe_non)))), ?_⟩
    refine q_drop (v := .non) (ev_call (ea_cons (ev_var rfl) ea_nil) fun H1 e Q k E => ⟨n, rfl, hn1, hn2, k⟩) fun H2 e2 => ?_
    refine q_forR2 (lo := 1) (n := ((n + 1 : Nat) : Int)) (ea_cons ev_c (ea_cons (ev_addN (ev_var rfl) (ev_c (v := .int ((1 : Nat) : Int)))) ea_nil)) (by omega)
      (fun i σ H' => (∃ y3 y4, σ = [some (.int (n : Nat)), y3, y4]) ∧ Ex H H' ∧ ∀ y ∈ uptoP n i, (lackM y.2).isNone = false)
      (fun H4 e4 => ⟨⟨_, _, rfl⟩, e2.trans e4, fun y hy => nomatch hy⟩) (fun i σ' H' hi pr => ?_) (fun σ' H' pr => ?_)
    · obtain ⟨⟨y3, y4, rfl⟩, e, hm⟩ := pr
      have hi' : i < n := by omega
      have ei : (1 : Int) + (i : Nat) = ((i + 1 : Nat) : Int) := by omega
      rw [ei]
      refine s_forNL (K := K) (xs := txV (allOf n (i + 1))) (el_call (ea_cons (ev_var rfl) (ea_cons (ev_var rfl) ea_nil)) fun H1 e Q k E => ⟨n, i + 1, rfl, hn2, by omega, k⟩)
        (fun pl j σ H'' => (∃ y4, σ = [some (.int (n : Nat)), some (.int ((i + 1 : Nat) : Int)), y4]) ∧ Ex H H'' ∧ H'' pl = some (.lst (txV (allOf n (i + 1)))) ∧ ∀ u ∈ (allOf n (i + 1)).take j, (lackM u).isNone = false)
        (fun pl H4 _ e4 h4 => ⟨⟨_, rfl⟩, e.trans e4, h4, fun u hu => by simp at hu⟩) (fun pl j σ H'' _ pr => sq_of pr.2.2.1) (fun pl j x σ H'' hx pr => ?_) (fun pl σ H'' pr => ?_)
      · obtain ⟨⟨y4, rfl⟩, e4, h4, hu⟩ := pr
        obtain ⟨t, ht, htm, rfl⟩ := at_map hx
        obtain ⟨tl, tc⟩ := mem_allOf.mp htm
        refine s_when (b := (lackM t).isNone) (et_is (et_test (ev_isN (x := oV (lackM t)) (ev_call (ea_cons (ev_var rfl) ea_nil) fun H1 e Q k E => ⟨t, rfl, ⟨by omega, by omega⟩, k⟩))) (oV_is _)) (fun hb H5 e5 => ?_) (fun hb H5 e5 => ?_)
        · refine s_retC (K := K) (c := cPart (some (i + 1, t))) (ec_tup (ea_cons (ev_var rfl) (ea_cons (ev_var rfl) ea_nil)) (by show 2 ≤ 1000; decide)) fun v H6 e6 i6 => ?_
          have hf : fewestM n = some (i + 1, t) := find_allP hi' ht hm hu hb
          have := k v H6 ((e4.trans e5).trans e6)
          rw [hf] at this
          exact this i6
        · refine ⟨⟨_, rfl⟩, e4.trans e5, e5 _ _ h4, fun u hu' => ?_⟩
          rw [List.take_add_one, ht] at hu'
          rcases List.mem_append.mp hu' with h | h
          · exact hu u h
          · have : u = t := by simpa using h
            rw [this]
            exact hb
      · obtain ⟨⟨y4, rfl⟩, e4, h4, hu⟩ := pr
        refine ⟨⟨_, _, rfl⟩, e4, fun y hy => ?_⟩
        rw [uptoP_succ] at hy
        rcases List.mem_append.mp hy with h | h
        · exact hm y h
        · obtain ⟨u, hu', rfl⟩ := List.mem_map.mp h
          exact hu u (by rw [List.take_of_length_le (by simp)]; exact hu')
    · obtain ⟨⟨y3, y4, rfl⟩, e, hm⟩ := pr
      refine s_retC (K := K) (c := cPart none) (ec_ev ev_c) fun v H4 e4 i4 => ?_
      have en : (((n + 1 : Nat) : Int) - 1).toNat = n := by omega
      rw [en] at hm
      have hf : fewestM n = none := by
        unfold fewestM
        rw [List.find?_eq_none]
        intro y hy
        rw [hm y hy]
        decide
      have := k v H4 (e.trans e4)
      rw [hf] at this
      exact this i4
/-! ### beginning -/
abbrev s_beginning : Stmt := topS 13
theorem sc_beginning : FnScope ["beats", "many", "pattern"] ["beats", "many"] (defScope s_beginning) := ⟨rfl, rfl, rfl, by decide +kernel, rfl, by decide +kernel, by decide +kernel⟩
def spBeg (K : PySem.W.Frag) : Sp := fun vs H Q _ => ∃ n m : Nat, vs = [.int (n : Nat), .int (m : Nat)] ∧ (1 ≤ n ∧ n ≤ 12) ∧ m ≤ n ∧ RetN K ((begM n m).map cT) H Q
theorem ok_beginning (D : Def1 K mg "beginning" s_beginning) (B : Bl mg) (g_AWAKE : ∃ t, mg "AWAKE" = some (.str "1" t)) (c_all_of : Cal P w K mg base 1 "all_of" ["beats", "many"] spAllOf) : Cal P w K mg base 2 "beginning" ["beats", "many"] (spBeg K) := by
  refine D.cal sc_beginning (fun _ _ _ _ _ _ us hl => match us, hl with | [_, _], _ => rfl) (fun vs H Q E h => ?_) (fun f cdv A outer s H vs Q E hr h => ?_)
  · obtain ⟨n, m, rfl, _⟩ := h
    rfl
  · obtain ⟨n, m, rfl, ⟨hn1, hn2⟩, hm, k⟩ := h
    refine ⟨_, (pss_one (ps_ret (pe_lc (own := [("pattern", 2)]) (g := gName 2) rfl sc_beginning.nd (pi_list (pe_callC c_all_of hr (by decide) (pa_cons (pv 0) (pa_cons (pv 1) pa_nil)))) (blkOk_by (N := ["beats", "many", "pattern"]) (sc := defScope s_beginning) (by decide +kernel)) (fun _ _ _ _ _ => (pg_name (i := 2) sc_beginning.nd rfl (Or.inl rfl))) (fun _ _ _ _ _ => (pts_one (pt_cmpR op_eq (pe_ix ix_str (pv 2) pe_int (fun _ _ => rfl)) (pe_gS g_AWAKE) (nomark _)))) (fun _ _ _ _ _ => (pv 2))))), ?_⟩
    have hl : (allOf n m).length ≤ 4096 := by
      unfold allOf
      refine Nat.le_trans (List.length_filter_le _ _) ?_
      rw [lists_len]
      exact Nat.le_trans (Nat.pow_le_pow_right (by decide) hn2) (by decide)
    have en0 : EvN K (tCall spAllOf [] E0 (tCons (tVar 0) (tCons (tVar 1) tNil))) [some (.int (n : Nat)), some (.int (m : Nat)), none] H ((allOf n m).map cT) := by
      have := en_el (K := K) (xs := txV (allOf n m)) (el_call (σ := [some (.int (n : Nat)), some (.int (m : Nat)), none]) (H := H) (sp := spAllOf) (E := E0) (ta := tCons (tVar 0) (tCons (tVar 1) tNil)) (ea_cons (ev_var rfl) (ea_cons (ev_var rfl) ea_nil)) fun H1 e Q k E => ⟨n, m, rfl, hn2, hm, k⟩)
      rw [List.map_map] at this
      exact this
    refine s_retN (K := K) (cs := (begM n m).map cT) (en_lcTN (K := K) (as := allOf n m) (c := cT) (fun p => p.getD 0 false) cT en0 (by omega) (fun _ => rfl) (fun p hp x H1 e1 ix => ?_) (fun p hp x H1 e1 ix _ => ?_)) fun a xs H1 ha e1 h1 i1 => k a xs H1 ha e1 h1 i1
    · have hx : x = .str (txt p) := ix
      subst hx
      obtain ⟨pl, _⟩ := mem_allOf.mp hp
      exact et_test (ev_is1 (ev_ixP (i := 0) (ev_var rfl) ev_c (by omega) (by omega)) ev_c)
    · exact ec_var rfl ix
/-! ### paper -/
abbrev s_paper : Stmt := topS 14
theorem sc_paper : FnScope ["beats", "many", "pattern"] ["beats"] (defScope s_paper) := ⟨rfl, rfl, rfl, by decide +kernel, rfl, by decide +kernel, by decide +kernel⟩
def spPaper (K : PySem.W.Frag) : Sp := fun vs H Q _ => ∃ n : Nat, vs = [.int (n : Nat)] ∧ (1 ≤ n ∧ n ≤ 12) ∧ RetN K ((paperM n).map cSI) H Q
theorem ok_paper (D : Def1 K mg "paper" s_paper) (B : Bl mg) (c_fewest : Cal P w K mg base 3 "fewest" ["beats"] (spFew K)) (c_beginning : Cal P w K mg base 2 "beginning" ["beats", "many"] (spBeg K)) (c_lacking : Cal P w K mg base 2 "lacking" ["pattern"] spLack) :
    Cal P w K mg base 4 "paper" ["beats"] (spPaper K) := by
  refine D.cal sc_paper (fun _ _ _ _ _ _ us hl => match us, hl with | [_], _ => rfl) (fun vs H Q E h => ?_) (fun f cdv A outer s H vs Q E hr h => ?_)
  · obtain ⟨n, rfl, _⟩ := h
    rfl
  · obtain ⟨n, rfl, ⟨hn1, hn2⟩, k⟩ := h
    refine ⟨_, (pss_cons (ps_set (i := 1) sc_paper.nd rfl (Or.inl rfl) (pe_ix ix_tup (pe_callC c_fewest hr (by decide) (pa_cons (pv 0) pa_nil)) pe_int (fun _ _ => rfl)))
 (pss_one (ps_ret (pe_ifExp (pt_cmpR op_gt (pv 1) pe_int (nomark _)) (pe_lc (own := [("pattern", 2)]) (g := gName 2) rfl sc_paper.nd (pi_list (pe_callC c_beginning hr (by decide) (pa_cons (pv 0) (pa_cons (pe_op op_sub (pv 1) pe_int) pa_nil)))) (blkOk_by (N := ["beats", "many", "pattern"]) (sc := defScope s_paper) (by decide +kernel)) (fun _ _ _ _ _ => (pg_name (i := 2) sc_paper.nd rfl (Or.inl rfl))) (fun _ _ _ _ _ => pts_nil) (fun _ _ _ _ _ => (pe_tup (pa_cons (pv 2) (pa_cons (pe_callC c_lacking hr (by decide) (pa_cons (pv 2) pa_nil)) pa_nil))))) (pe_lst pa_nil))))), ?_⟩
    obtain ⟨x, hx⟩ := few_ex hn1
    obtain ⟨hxm, hxl⟩ := few_facts hx
    obtain ⟨xl, xc, x1⟩ := mem_allP.mp hxm
    have hcl : ct x.2 ≤ x.2.length := List.count_le_length
    refine q_asg (v := .int (x.1 : Nat)) (ev_ixC (K := K) (i := 0) (xs := [.int (x.1 : Nat), .str (txt x.2)]) (ec_call (ea_cons (ev_var rfl) ea_nil) fun H1 e Q k => ⟨n, rfl, ⟨hn1, hn2⟩, by rw [hx]; exact k⟩) ev_c rfl) fun H1 e1 => ?_
    refine s_retN (K := K) (cs := (paperM n).map cSI) (en_if (b := decide (1 < x.1)) (et_is (et_test (ev_op (ev_var rfl) ev_c rv_I0)) (decide_eq_decide.mpr (by omega))) (fun hb => ?_) (fun hb => ?_)) fun a xs H2 ha e2 h2 i2 => k a xs H2 (fresh_back e1 ha) (e1.trans e2) h2 i2
    · have hb := of_decide_eq_true hb
      have e0 : paperM n = paperOf n (x.1 - 1) := by
        unfold paperM
        rw [hx]
        exact if_pos hb
      have hbl := begM_len (n := n) (m := x.1 - 1) hn2
      have es : ((x.1 : Nat) : Int) - 1 = ((x.1 - 1 : Nat) : Int) := by omega
      have en := en_lcTN (K := K) (as := begM n (x.1 - 1)) (c := cT) (t := tYes) (te := tTup (tCons (tVar 2) (tCons (tCall spLack [] E0 (tCons (tVar 2) tNil)) tNil))) (tl := tCall (spBeg K) [] E0 (tCons (tVar 0) (tCons (tOp (rI0 fun i j => .int (i - j)) (tVar 1) (tC (.int 1))) tNil))) (j := 2) (vs := [2]) (σ := [some (.int (n : Nat)), some (.int (x.1 : Nat)), none]) (H := H1) (fun _ => true) (fun p => cSI (txt p, (((lackM p).getD 0 : Nat) : Int))) (en_call (ea_cons (ev_var rfl) (ea_cons (ev_is (ev_op (ev_var rfl) ev_c rv_I0) (congrArg V.int es)) ea_nil)) fun H1 e Q k => ⟨n, x.1 - 1, rfl, ⟨hn1, hn2⟩, by omega, k⟩) (by omega) (fun _ => rfl) (fun p hp y H3 e3 iy => et_yes) (fun p hp y H3 e3 iy _ => by
          have hy : y = .str (txt p) := iy
          subst hy
          obtain ⟨pl, pc, _⟩ := mem_begM.mp hp
          obtain ⟨d, hd⟩ := lack_less hx pl (by omega) (by omega)
          refine ec_tup (ea_cons (ev_var rfl) (ea_cons (ev_is (ev_call (ea_cons (ev_var rfl) ea_nil) fun H1 e Q k E => ⟨p, rfl, ⟨by omega, by omega⟩, k⟩) ?_) ea_nil)) (by show 2 ≤ 1000; decide)
          rw [hd]
          rfl)
      rw [List.filter_eq_self.mpr (fun _ _ => rfl)] at en
      rw [e0]
      unfold paperOf
      rw [List.map_map]
      exact en
    · have hb := of_decide_eq_false hb
      have e0 : paperM n = [] := by
        unfold paperM
        rw [hx]
        exact if_neg hb
      rw [e0]
      exact en_el (xs := []) (el_lst ea_nil (Nat.zero_le _))
end
end Bm
namespace Bm
open PySem PySem.Spec PyProof.Rows L2 Evl
section
variable {P : Program} {w : World} {K : PySem.W.Frag} {mg : PySem.Str → Option Value} {base : Heap}
/-! ### shows -/
abbrev s_shows : Stmt := topS 15
theorem sc_shows : FnScope ["beats", "many", "told", "pattern", "by", "some", "row", "at"] ["beats", "many", "told"] (defScope s_shows) := ⟨rfl, rfl, rfl, by decide +kernel, rfl, by decide +kernel, by decide +kernel⟩
def spShows (K : PySem.W.Frag) : Sp := fun vs H Q _ => ∃ (n m : Nat) (a : Addr) (xs : List V) (rs : List SI), vs = [.int (n : Nat), .int (m : Nat), .ref a] ∧ (1 ≤ n ∧ n ≤ 12) ∧ m ≤ n ∧ SqL K H a xs ∧ IsAll K H xs (rs.map cSI) ∧ rs.length ≤ 10000 ∧ (∀ r ∈ rs, PyData.strOk r.1 = true) ∧ RetV (.bl (showsM n m rs)) H Q
theorem cSI_ok {r : SI} (h : PyData.strOk r.1 = true) : okC (cSI r) = true := by
  show (PyData.strOk r.1 && (true && true)) = true
  rw [h]
  rfl
theorem shows_at {n m i : Nat} {rs : List SI} {p : List Bool} {r : SI} (hm : m ≠ 0) (hp : (begM n m)[i]? = some p) (hr : rs[i]? = some r) (hb : goodBy p r.2 = false) : showsM n m rs = false := by
  unfold showsM
  rw [if_neg hm, Bool.and_eq_false_iff]
  refine .inr ?_
  rw [List.all_eq_false]
  refine ⟨(p, r.2), List.mem_of_getElem? (i := i) (List.getElem?_zip_eq_some.mpr ⟨hp, ?_⟩), by rw [hb]; decide⟩
  rw [List.getElem?_map, hr]
  rfl
theorem ok_shows (D : Def1 K mg "shows" s_shows) (B : Bl mg) (c_need_beats : Cal P w K mg base 1 "need_beats" ["beats"] spNeedB) (c_beginning : Cal P w K mg base 2 "beginning" ["beats", "many"] (spBeg K)) (c_awake_of : Cal P w K mg base 1 "awake_of" ["pattern"] spOnes) :
    Cal P w K mg base 3 "shows" ["beats", "many", "told"] (spShows K) := by
  refine D.cal sc_shows (fun _ _ _ _ _ _ us hl => match us, hl with | [_, _, _], _ => rfl) (fun vs H Q E h => ?_) (fun f cdv A outer s H vs Q E hr h => ?_)
  · obtain ⟨n, m, a, xs, rs, rfl, _⟩ := h
    rfl
  · obtain ⟨n, m, a, xs, rs, rfl, ⟨hn1, hn2⟩, hm, hs, hi, hrl, hok, k⟩ := h
    refine ⟨_, (pss_cons (ps_expr (pe_callC c_need_beats hr (by decide) (pa_cons (pv 0) pa_nil)))
 (pss_cons (ps_if (pt_not (pt_chain op_le op_le pe_int (pv 1) (pv 0))) pss_never
 pss_nil)
 (pss_cons (ps_if (pt_cmpR op_eq (pv 1) pe_int (nomark _)) (pss_one (ps_ret (pe_cmpR (op_eqD hr.units) (pv 2) (pe_lst pa_nil) (nomark _))))
 pss_nil)
 (pss_cons (ps_if (pt_cmpR (op_neD hr.units) (pe_lc (own := [("row", 6)]) (g := gName 6) rfl sc_shows.nd (pi_list (pv 2)) (blkOk_by (N := ["beats", "many", "told", "pattern", "by", "some", "row", "at"]) (sc := defScope s_shows) (by decide +kernel)) (fun _ _ _ _ _ => (pg_name (i := 6) sc_shows.nd rfl (Or.inl rfl))) (fun _ _ _ _ _ => pts_nil) (fun _ _ _ _ _ => (pe_ix (r := rIxT K) ix_tup (pv 6) pe_int (fun _ _ => rfl)))) (pe_callC c_beginning hr (by decide) (pa_cons (pv 0) (pa_cons (pv 1) pa_nil))) (nomark _)) (pss_one (ps_ret pe_bl))
 pss_nil)
 (pss_cons (ps_for PassesOwn.never rfl (pi_list (pv 2)) (pg_tup rfl (pgs_cons (pg_name (i := 3) sc_shows.nd rfl (Or.inl rfl)) (pgs_cons (pg_name (i := 4) sc_shows.nd rfl (Or.inr rfl)) pgs_nil)))
 (pss_cons (ps_set (i := 5) sc_shows.nd rfl (Or.inr rfl) (pe_callC c_awake_of hr (by decide) (pa_cons (pv 3) pa_nil)))
 (pss_one (ps_if (PW.pt (pw_or (pt_not (pt_chain op_le op_lt pe_int (pv 4) (pv 0))) (pw_or1 (pt_cmpR (op_neD hr.units) (pe_lc (own := [("at", 7)]) (g := gName 7) rfl sc_shows.nd (pi_list (pv 5)) (blkOk_by (N := ["beats", "many", "told", "pattern", "by", "some", "row", "at"]) (sc := defScope s_shows) (by decide +kernel)) (fun _ _ _ _ _ => (pg_name (i := 7) sc_shows.nd rfl (Or.inl rfl))) (fun _ _ _ _ _ => (pts_one (pt_cmpR (r := rIn K false) op_in_seq (pe_op op_mod (pe_op op_add (pv 7) (pv 4)) (pv 0)) (pv 5) (by rfl)))) (fun _ _ _ _ _ => (pv 7))) (pe_lst pa_nil) (nomark _))))) (pss_one (ps_ret pe_bl))
 pss_nil))))
 (pss_one (ps_ret pe_bl))))))), ?_⟩
    refine q_drop (v := .non) (ev_call (ea_cons (ev_var rfl) ea_nil) fun H1 e Q k E => ⟨n, rfl, hn1, hn2, k⟩) fun H1 e1 => ?_
    refine q_when (b := false) (et_is (et_not (et_test (ev_chain (K := K) ev_c (ev_var rfl) (ev_var rfl) rv_I0 rv_I0))) ?_) (fun hb => nomatch hb) (fun _ H2 e2 => ?_)
    · have a1 : decide ((0 : Int) ≤ (m : Nat)) = true := decide_eq_true (by omega)
      have a2 : decide (((m : Nat) : Int) ≤ (n : Nat)) = true := decide_eq_true (by omega)
      show (!(decide ((0 : Int) ≤ (m : Nat)) && decide (((m : Nat) : Int) ≤ (n : Nat)))) = false
      rw [a1, a2]
      rfl
    · have e12 := e1.trans e2
      have hrok : (rs.map cSI).all okC = true := by
        rw [List.all_map, List.all_eq_true]
        intro r hr
        exact cSI_ok (hok r hr)
      refine q_when (b := decide (m = 0)) (et_is (et_test (ev_op (ev_var rfl) ev_c (rv_eq rfl))) ?_) (fun hb H3 e3 => ?_) (fun hb H3 e3 => ?_)
      · refine decide_eq_decide.mpr ⟨fun h => ?_, fun h => by rw [h]; rfl⟩
        have := V.int.inj h
        omega
      · refine s_ret (v := .bl (rs.map cSI).isEmpty) (ev_nilL (K := K) (ev_var rfl) (ex_l (e12.trans e3) hs) (hi.up (e12.trans e3)) hrok) fun H4 e4 => ?_
        have e0 : showsM n m rs = (rs.map cSI).isEmpty := by
          unfold showsM
          rw [if_pos (of_decide_eq_true hb), List.isEmpty_map]
        have := k H4 ((e12.trans e3).trans e4)
        rw [e0] at this
        exact this
      · have hm0 : m ≠ 0 := of_decide_eq_false hb
        have e13 := e12.trans e3
        have hbl := begM_len (n := n) (m := m) hn2
        have ens : EvN K (tLc (iList K (tVar 2)) (gName 6) tYes (tOp (rIxT K) (tVar 6) (tC (.int 0))) [6]) [some (.int (n : Nat)), some (.int (m : Nat)), some (.ref a), none, none, none, none, none] H3 ((rs.map Prod.fst).map cS) := by
          have en := en_lcTL (K := K) (as := rs) (c := cSI) (t := tYes) (te := tOp (rIxT K) (tVar 6) (tC (.int 0))) (tl := tVar 2) (a := a) (xs := xs) (j := 6) (vs := [6]) (σ := [some (.int (n : Nat)), some (.int (m : Nat)), some (.ref a), none, none, none, none, none]) (H := H3) (fun _ => true) (fun r => cS r.1) (ev_var rfl) (ex_l e13 hs) (hi.up e13) (by omega) (fun _ => rfl) (fun r hr x H4 e4 ix => et_yes) (fun r hr x H4 e4 ix _ => ec_ev (ev_ixC (K := K) (i := 0) (ec_var rfl ix) ev_c rfl))
          rw [List.filter_eq_self.mpr (fun _ _ => rfl)] at en
          rw [List.map_map]
          exact en
        have enb : ∀ H4, Ex H3 H4 → EvN K (tCall (spBeg K) [] E0 (tCons (tVar 0) (tCons (tVar 1) tNil))) [some (.int (n : Nat)), some (.int (m : Nat)), some (.ref a), none, none, none, none, none] H4 (((begM n m).map txt).map cS) := fun H4 e4 => by
          have := en_call (K := K) (σ := [some (.int (n : Nat)), some (.int (m : Nat)), some (.ref a), none, none, none, none, none]) (H := H4) (sp := spBeg K) (E := E0) (ta := tCons (tVar 0) (tCons (tVar 1) tNil)) (cs := (begM n m).map cT) (ea_cons (ev_var rfl) (ea_cons (ev_var rfl) ea_nil)) fun H1 e Q k => ⟨n, m, rfl, ⟨hn1, hn2⟩, hm, k⟩
          rw [List.map_map]
          exact this
        refine q_when (b := !decide (rs.map Prod.fst = (begM n m).map txt)) (et_test (ev_neNN (K := K) ens enb (strs_ok fun z hz => by
            obtain ⟨r, hr, rfl⟩ := List.mem_map.mp hz
            exact hok r hr) (strs_ok fun z hz => by
            obtain ⟨q, _, rfl⟩ := List.mem_map.mp hz
            exact txt_ok q) (eqv_strs _ _))) (fun hb H4 e4 => ?_) (fun hb H4 e4 => ?_)
        · refine s_ret (v := .bl false) ev_c fun H5 e5 => ?_
          have hf : decide (rs.map Prod.fst = (begM n m).map txt) = false := by simpa using hb
          have e0 : showsM n m rs = false := by
            unfold showsM
            rw [if_neg hm0, hf]
            rfl
          have := k H5 ((e13.trans e4).trans e5)
          rw [e0] at this
          exact this
        · have hf : rs.map Prod.fst = (begM n m).map txt := by simpa using hb
          have e14 := e13.trans e4
          have hlen : rs.length = (begM n m).length := by
            have := congrArg List.length hf
            rw [List.length_map, List.length_map] at this
            exact this
          have hxl : xs.length = rs.length := by rw [pr_len hi, List.length_map]
          refine q_forL (K := K) (a := a) (xs := xs) (ev_var rfl) (ex_l e14 hs)
            (fun i σ H5 => (∃ y3 y4 y5, σ = [some (.int (n : Nat)), some (.int (m : Nat)), some (.ref a), y3, y4, y5, none, none]) ∧ Ex H4 H5 ∧ ∀ j p r, j < i → (begM n m)[j]? = some p → rs[j]? = some r → goodBy p r.2 = true)
            (fun H5 e5 => ⟨⟨_, _, _, rfl⟩, e5, fun j p r hj => absurd hj (Nat.not_lt_zero _)⟩) (fun i σ5 H5 _ pr => ex_l (e14.trans pr.2.1) hs) (fun i x σ5 H5 hx pr => ?_) (fun σ5 H5 pr => ?_)
          · obtain ⟨⟨y3, y4, y5, rfl⟩, e5, hg⟩ := pr
            have e15 := e14.trans e5
            obtain ⟨c, hc, ic⟩ := pr_get hi hx
            obtain ⟨r, hr, hrm, rfl⟩ := at_map hc
            have hil : i < (begM n m).length := by
              have := (List.getElem?_eq_some_iff.mp hr).1
              omega
            have hp : (begM n m)[i]? = some (begM n m)[i] := List.getElem?_eq_getElem hil
            have hpm : (begM n m)[i] ∈ begM n m := List.getElem_mem hil
            generalize (begM n m)[i] = p at hp hpm
            obtain ⟨pl, pc, _⟩ := mem_begM.mp hpm
            have ht : r.1 = txt p := by
              have h1 : (rs.map Prod.fst)[i]? = some r.1 := by rw [List.getElem?_map, hr]; rfl
              have h2 : ((begM n m).map txt)[i]? = some (txt p) := by rw [List.getElem?_map, hp]; rfl
              rw [hf, h2] at h1
              exact (Option.some.inj h1).symm
            obtain ⟨t, b⟩ := r
            have ht : t = txt p := ht
            subst ht
            have ic := ic.up e15
            refine g_cell2 (K := K) ic ?_
            have hol := onesV_len p
            have hoe : (onesV p).length = (ones p).length := by unfold onesV; rw [List.length_map]
            refine q_asgL (xs := onesV p) (el_call (ea_cons (ev_var rfl) ea_nil) fun H1 e Q k E => ⟨p, rfl, by omega, k⟩) fun S H6 hS e6 h6 => ?_
            have hT : EvT (tOr (tNot (tTest (tChain (rI0 fun i j => .bl (decide (i ≤ j))) (rI0 fun i j => .bl (decide (i < j))) (tC (.int 0)) (tVar 4) (tVar 0)))) (tTest (tOp (rNeD K) (tLc (iList K (tVar 5)) (gName 7) (tTest (tOp (rIn K false) (tOp (rI (fun _ j => 0 < j) fun i j => .int (i % j)) (tOp (rI0 fun i j => .int (i + j)) (tVar 7) (tVar 4)) (tVar 0)) (tVar 5))) (tVar 7) [7]) (tLst tNil)))) [some (.int (n : Nat)), some (.int (m : Nat)), some (.ref a), some (.str (txt p)), some (.int b), some (.ref S), none, none] H6 (!goodBy p b) := by
              refine et_is (et_or (a := !(decide ((0 : Int) ≤ b) && decide (b < (n : Nat)))) (b := hasD p b.toNat) (et_not (et_test (ev_chain (K := K) ev_c (ev_var rfl) (ev_var rfl) rv_I0 rv_I0))) (fun hin => ?_)) ?_
              · have hin : (decide ((0 : Int) ≤ b) && decide (b < (n : Nat))) = true := by simpa using hin
                rw [Bool.and_eq_true] at hin
                have h1 := of_decide_eq_true hin.1
                obtain ⟨d, rfl⟩ : ∃ d : Nat, b = (d : Nat) := ⟨b.toNat, by omega⟩
                have en := en_lcTL (K := K) (as := ones p) (c := fun (i : Nat) => cI ((i : Nat) : Int)) (t := tTest (tOp (rIn K false) (tOp (rI (fun _ j => 0 < j) fun i j => .int (i % j)) (tOp (rI0 fun i j => .int (i + j)) (tVar 7) (tVar 4)) (tVar 0)) (tVar 5))) (te := tVar 7) (tl := tVar 5) (a := S) (xs := onesV p) (j := 7) (vs := [7]) (σ := [some (.int (n : Nat)), some (.int (m : Nat)), some (.ref a), some (.str (txt p)), some (.int (d : Nat)), some (.ref S), none, none]) (H := H6) (fun i => aw p (i + d)) (fun (i : Nat) => cI ((i : Nat) : Int)) (ev_var rfl) (sq_of h6) (ones_all p) (by omega) (fun _ => rfl) (fun i hi x H3 e3 ix => by
                    have hx : x = .int (i : Nat) := ix
                    subst hx
                    refine et_is (et_test (ev_op (ev_modN (b := n) (ev_addN (ev_var rfl) (ev_var rfl)) (ev_var rfl) (by omega)) (ev_var rfl) (rv_isL (K := K) (sq_of (e3 _ _ h6)) rfl (onesV_flat p)))) ?_
                    rw [← pl]
                    exact in_onesV (by omega) (i + d)) (fun i hi x H3 e3 ix _ => by
                    have hx : x = .int (i : Nat) := ix
                    subst hx
                    exact ec_ev (ev_var rfl))
                refine et_is (et_test (ev_nnilN (K := K) en (by rw [List.all_map, List.all_eq_true]; intro _ _; rfl))) ?_
                rw [Int.toNat_natCast, List.isEmpty_map]
                unfold hasD
                cases h : (ones p).any fun i => aw p (i + d) with
                | true =>
                  obtain ⟨i, hi, ha⟩ := List.any_eq_true.mp h
                  have : i ∈ (ones p).filter fun i => aw p (i + d) := List.mem_filter.mpr ⟨hi, ha⟩
                  cases hl : (ones p).filter fun i => aw p (i + d) with
                  | nil => rw [hl] at this; cases this
                  | cons _ _ => rfl
                | false =>
                  have : (ones p).filter (fun i => aw p (i + d)) = [] := by
                    rw [List.filter_eq_nil_iff]
                    intro i hi ha
                    have : (ones p).any (fun i => aw p (i + d)) = true := List.any_eq_true.mpr ⟨i, hi, ha⟩
                    rw [h] at this
                    cases this
                  rw [this]
                  rfl
              · unfold goodBy
                rw [pl]
                cases (decide ((0 : Int) ≤ b) && decide (b < (n : Nat))) <;> cases hasD p b.toNat <;> rfl
            refine s_when hT (fun hb H7 e7 => ?_) (fun hb H7 e7 => ?_)
            · refine s_ret (v := .bl false) ev_c fun H8 e8 => ?_
              have e0 : showsM n m rs = false := shows_at hm0 hp hr (by simpa using hb)
              have := k H8 (((e15.trans e6).trans e7).trans e8)
              rw [e0] at this
              exact this
            · refine ⟨⟨_, _, _, rfl⟩, (e5.trans e6).trans e7, fun j p' r' hj hp' hr' => ?_⟩
              by_cases c : j < i
              · exact hg j p' r' c hp' hr'
              · have : j = i := by omega
                subst this
                rw [hp] at hp'
                rw [hr] at hr'
                cases hp'
                cases hr'
                simpa using hb
          · obtain ⟨⟨y3, y4, y5, rfl⟩, e5, hg⟩ := pr
            refine s_ret (v := .bl true) ev_c fun H6 e6 => ?_
            have e0 : showsM n m rs = true := by
              unfold showsM
              rw [if_neg hm0, decide_eq_true hf, Bool.true_and, List.all_eq_true]
              rintro ⟨p, b⟩ hz
              obtain ⟨i, hi⟩ := List.mem_iff_getElem?.mp hz
              rw [List.getElem?_zip_eq_some, List.getElem?_map] at hi
              obtain ⟨h1, h2⟩ := hi
              cases h3 : rs[i]? with
              | none => rw [h3] at h2; cases h2
              | some r =>
                rw [h3] at h2
                have h2 : r.2 = b := Option.some.inj h2
                have := hg i p r (by have := (List.getElem?_eq_some_iff.mp h3).1; omega) h1 h3
                rw [h2] at this
                exact this
            have := k H6 ((e14.trans e5).trans e6)
            rw [e0] at this
            exact this
end
end Bm
namespace Bm
open PySem PySem.Spec PyProof.Rows L2 Evl
section
variable {P : Program} {w : World} {K : PySem.W.Frag} {mg : PySem.Str → Option Value} {base : Heap}
/-! ### _law_dice -/
abbrev s_law_dice : Stmt := topS 17
theorem sc_law_dice : FnScope ["_law_script", "_law_k", "_law_found", "_law_cell"] ["_law_script", "_law_k"] (defScope s_law_dice) := ⟨rfl, rfl, rfl, by decide +kernel, rfl, by decide +kernel, by decide +kernel⟩
def spDice (K : PySem.W.Frag) : Sp := fun vs H Q _ => ∃ (a : Addr) (ns : List Int) (k : Int), vs = [.ref a, .int k] ∧ SqL K H a (ns.map V.int) ∧ ns.length ≤ 1000 ∧
  ∀ (D : Addr) (ds : List Int) (H2 : Hp), H D = none → Ex H H2 → 2 ≤ ds.length → H2 D = some (.lst (ds.map V.int)) → Q (.ref D) H2
theorem ok_law_dice (D : Def1 K mg "_law_dice" s_law_dice) (B : Bl mg) : Cal P w K mg base 1 "_law_dice" ["_law_script", "_law_k"] (spDice K) := by
  refine D.cal sc_law_dice (fun _ _ _ _ _ _ us hl => match us, hl with | [_, _], _ => rfl) (fun vs H Q E h => ?_) (fun f cdv A outer s H vs Q E hr h => ?_)
  · obtain ⟨a, ns, k, rfl, _⟩ := h
    rfl
  · obtain ⟨a, ns, k, rfl, hS, hl, kk⟩ := h
    refine ⟨_, (pss_cons (ps_set (i := 2) sc_law_dice.nd rfl (Or.inl rfl) (pv 1))
 (pss_cons (ps_for PassesOwn.never rfl (pi_list (pv 0)) (pg_name (i := 3) sc_law_dice.nd rfl (Or.inl rfl))
 (pss_one (ps_set (i := 2) sc_law_dice.nd rfl (Or.inl rfl) (pe_op op_mod (pe_op op_add (pe_op op_mul (pv 2) pe_int) (pe_callB call_abs (by rfl) B.abs (by decide +kernel) (pa_cons (pv 3) pa_nil))) pe_int))))
 (pss_one (ps_ret (pe_op op_cat (pe_lst (pa_cons (pv 2) (pa_cons pe_int pa_nil))) (pe_lc (own := [("_law_cell", 3)]) (g := gName 3) rfl sc_law_dice.nd (pi_list (pv 0)) (blkOk_by (N := ["_law_script", "_law_k", "_law_found", "_law_cell"]) (sc := defScope s_law_dice) (by decide +kernel)) (fun _ _ _ _ _ => (pg_name (i := 3) sc_law_dice.nd rfl (Or.inl rfl))) (fun _ _ _ _ _ => (pts_one (pt_cmpR op_ge (pv 3) (pe_op op_pow pe_int pe_int) (nomark _)))) (fun _ _ _ _ _ => (pv 3)))))))), ?_⟩
    refine q_asg (v := .int k) (ev_var rfl) fun H1 e1 => ?_
    refine q_forLn (a := a) (xs := ns.map V.int) (K := K) (ev_var rfl) (ex_l e1 hS) (fun i σ H' => (∃ z y, σ = [some (.ref a), some (.int k), some (.int z), y]) ∧ Ex H H') (fun H2 e2 => ⟨⟨k, _, rfl⟩, e1.trans e2⟩) (fun i σ' H' _ p => ex_l p.2 hS) (fun i x σ' H' hx p => ?_) (fun σ' H' p => ?_)
    · obtain ⟨⟨z, y, rfl⟩, e⟩ := p
      obtain ⟨m, rfl⟩ : ∃ m, x = V.int m := by
        rw [List.getElem?_map] at hx
        cases h : ns[i]? with
        | none => rw [h] at hx; cases hx
        | some m => rw [h] at hx; exact ⟨m, (Option.some.inj hx).symm⟩
      refine s_asg (ev_op (ev_op (ev_op (ev_var rfl) ev_c (rv_I (Or.inr ⟨by decide, by decide⟩))) (ev_cb (ea_cons (ev_var rfl) ea_nil) fun H1 _ _ q => ⟨m, rfl, q H1 (Ex.refl H1)⟩) rv_I0) ev_c (rv_I (by decide))) fun H2 e2 => ?_
      exact ⟨⟨_, _, rfl⟩, e.trans e2⟩
    · obtain ⟨⟨z, y, rfl⟩, e⟩ := p
      refine s_retL (el_cat (el_lst (ea_cons (ev_var rfl) (ea_cons ev_c ea_nil)) (by show 2 ≤ 100000; decide)) (el_lcL (K := K) (a := a) (xs := ns.map V.int) (fun i => decide ((10 : Int) ^ ((18 : Int).toNat) ≤ ns.getD i 0)) (fun i => .int (ns.getD i 0)) (ev_var rfl) (ex_l e hS) (by rw [List.length_map]; omega) (fun _ => rfl) (fun i x H1 e1 hx => ?_) (fun i x H1 e1 hx _ => ?_)) ?_) ?_
      · have hx' : x = .int (ns.getD i 0) := by
          rw [List.getElem?_map] at hx
          rw [List.getD_eq_getElem?_getD]
          cases h : ns[i]? with
          | none => rw [h] at hx; cases hx
          | some m => rw [h] at hx; exact (Option.some.inj hx).symm
        subst hx'
        exact et_test (ev_op (ev_var rfl) (ev_op ev_c ev_c (rv_I ⟨by decide, by decide, by decide⟩)) rv_I0)
      · have hx' : x = .int (ns.getD i 0) := by
          rw [List.getElem?_map] at hx
          rw [List.getD_eq_getElem?_getD]
          cases h : ns[i]? with
          | none => rw [h] at hx; cases hx
          | some m => rw [h] at hx; exact (Option.some.inj hx).symm
        subst hx'
        exact ev_var rfl
      · have := given_len (ns.map V.int).length (fun i => decide ((10 : Int) ^ ((18 : Int).toNat) ≤ ns.getD i 0)) (fun i => .int (ns.getD i 0))
        rw [List.length_map] at this ⊢
        show 2 + _ ≤ _
        omega
      · intro p H2 hp e2 h2
        refine kk p (z :: 0 :: ((List.range ns.length).filter (fun i => decide ((10 : Int) ^ ((18 : Int).toNat) ≤ ns.getD i 0))).map fun i => ns.getD i 0) H2 (fresh_back e hp) (e.trans e2) (by simp) ?_
        rw [h2]
        congr 2
        show V.int z :: V.int 0 :: given _ _ _ = V.int z :: V.int 0 :: _
        unfold given
        rw [List.length_map, List.map_map]
        rfl
/-! ### _law_off -/
abbrev s_law_off : Stmt := topS 18
theorem sc_law_off : FnScope ["_law_d", "_law_most", "_law_found"] ["_law_d", "_law_most"] (defScope s_law_off) := ⟨rfl, rfl, rfl, by decide +kernel, rfl, by decide +kernel, by decide +kernel⟩
def spOff : Sp := fun vs H Q _ => ∃ (D : Addr) (ds : List Int) (m : Nat), vs = [.ref D, .int (m : Nat)] ∧ (0 < m ∧ m ≤ 1000000) ∧ 2 ≤ ds.length ∧ H D = some (.lst (ds.map V.int)) ∧
  ∀ (r : Nat) (ds' : List Int) (H2 : Hp), r < m → 2 ≤ ds'.length → ExB D H H2 → H2 D = some (.lst (ds'.map V.int)) → Q (.int (r : Nat)) H2
theorem off_of {D : Addr} {G H : Hp} {m : Nat} {Q : VK} {E : XK} (d : DD D G H) (hm : 0 < m ∧ m ≤ 1000000) (k : ∀ (r : Nat) (H2 : Hp), r < m → ExB D H H2 → DD D G H2 → Q (.int (r : Nat)) H2) : spOff [.ref D, .int (m : Nat)] H Q E := by
  obtain ⟨ds, h2, h⟩ := d.at_
  exact ⟨D, ds, m, rfl, hm, h2, h, fun r ds' H2 hr h2' e h' => k r H2 hr e (d.b e h2' h')⟩
theorem r_off {σ : L2.St} {ta : TA} {D : Addr} {G H : Hp} {m : Nat} {Q : VK} (d : DD D G H) (hm : 0 < m ∧ m ≤ 1000000) (h : EvA ta σ H [.ref D, .int (m : Nat)]) (k : ∀ (r : Nat) (H2 : Hp), r < m → ExB D H H2 → DD D G H2 → Q (.int (r : Nat)) H2) : tCall spOff [] E0 ta σ H Q :=
  h H (Ex.refl H) _ fun H1 e1 => off_of (d.up e1) hm fun r H2 hr e2 d2 => k r H2 hr ((Ex.b e1).trans e2) d2
theorem r_cOff {σ : L2.St} {ta : TA} {D : Addr} {G H : Hp} {m c : Nat} {Q : VK} (d : DD D G H) (hm : 0 < m ∧ m ≤ 1000000) (h : EvA ta σ H [.ref D, .int (m : Nat)]) (k : ∀ (r : Nat) (H2 : Hp), r < m → ExB D H H2 → DD D G H2 → Q (.int ((c + r : Nat) : Int)) H2) :
    tOp (rI0 fun i j => .int (i + j)) (tC (.int ((c : Nat) : Int))) (tCall spOff [] E0 ta) σ H Q :=
  r_off d hm h fun r H2 hr e2 d2 => ⟨(c : Nat), (r : Nat), rfl, rfl, by
    have := k r H2 hr e2 d2
    rw [Int.natCast_add] at this
    exact this⟩
/-- [a, b, ..][off(d, m)] -/
theorem r_menu {σ : L2.St} {ta tb : TA} {D : Addr} {G H : Hp} {m : Nat} {vs : List V} {Q : VK} (d : DD D G H) (ha : EvA ta σ H vs) (hl : vs.length = m) (hm : 0 < m ∧ m ≤ 1000) (h : ∀ H1, Ex H H1 → EvA tb σ H1 [.ref D, .int (m : Nat)])
    (k : ∀ (v : V) (H2 : Hp), v ∈ vs → ExB D H H2 → DD D G H2 → Q v H2) : tOp (rIxL K) (tLst ta) (tCall spOff [] E0 tb) σ H Q :=
  r_op2 (el_lst ha (by omega) H (Ex.refl H) _ fun pl H3 hp e3 h3 => r_off (m := m) (d.up e3) (by omega) (h H3 e3) fun r H4 hr e4 d4 => by
    obtain ⟨ds, _, hds⟩ := d.at_
    have hpl : pl ≠ D := (ne_of_none hds hp).symm
    have hr' : r < vs.length := by omega
    exact ⟨pl, vs, (r : Nat), vs[r], rfl, rfl, sq_of (e4 _ _ hpl h3), atI_nat (List.getElem?_eq_getElem hr'), k _ H4 (List.getElem_mem hr') ((Ex.b e3).trans e4) d4⟩)
/-- for .. in range(off(d, m)), something behind -/
theorem r_qforOff {σ : L2.St} {ta : TA} {Da : Addr} {G H : Hp} {m j : Nat} {tu tz : TS} {D : Ends} (d : DD Da G H) (hm : 0 < m ∧ m ≤ 1000) (h : EvA ta σ H [.ref Da, .int (m : Nat)]) (Pv : Nat → Nat → L2.St → Hp → Prop) (h0 : ∀ n H1, n < m → ExB Da H H1 → DD Da G H1 → Pv n 0 σ H1)
    (hs : ∀ n i σ' H', n < m → i < n → Pv n i σ' H' → tu { D with nx := Pv n (i + 1), ct := Pv n (i + 1), bk := tz D } (σ'.set j (some (.int (i : Nat)))) H') (hd : ∀ n σ' H', n < m → Pv n n σ' H' → tz D σ' H') :
    tSeq (tFor (iRng1 (tCons (tCall spOff [] E0 ta) tNil)) (gName j) tu) tz D σ H := by
  show tCall spOff [] E0 ta σ H _
  refine r_off d (by omega) h fun n H1 hn e1 d1 => ⟨(n : Nat), rfl, by omega, by omega, ?_⟩
  have := for_range (lo := 0) (n := ((n : Nat) : Int).toNat) (g := gName j) (tb := tu) (D := { D with nx := tz D }) (σ := σ) (H := H1) (Pv n) (h0 n H1 hn e1 d1) (fun i σ' H' hi p => by
    have e0 : (0 : Int) + (i : Int) = (i : Int) := Int.zero_add _
    show tu { D with nx := Pv n (i + 1), ct := Pv n (i + 1), bk := tz D } (σ'.set j (some (.int ((0 : Int) + (i : Int))))) H'
    rw [e0]
    exact hs n i σ' H' hn (by omega) p) (fun σ' H' p => hd n σ' H' hn p)
  exact this
theorem r_and {t u : TT} {σ : L2.St} {H : Hp} {b : Bool} {Q : Bool → Hp → Prop} (h1 : EvT t σ H b) (h2 : b = true → ∀ H1, Ex H H1 → u σ H1 Q) (h3 : b = false → ∀ H1, Ex H H1 → Q false H1) : tAnd t u σ H Q := h1 H (Ex.refl H) _ fun H1 e1 => by
  cases b with
  | true => exact iteT (h2 rfl H1 e1)
  | false => exact iteF (h3 rfl H1 e1)
theorem get_ints {ds : List Int} {i : Nat} (h : i < ds.length) : atI (ds.map V.int) (i : Nat) = some (.int (ds.getD i 0)) := by
  refine atI_nat ?_
  rw [List.getElem?_map, List.getElem?_eq_getElem h, List.getD_eq_getElem?_getD, List.getElem?_eq_getElem h]
  rfl
theorem erase_map {α β : Type} (f : α → β) : ∀ (l : List α) (i : Nat), (l.map f).eraseIdx i = (l.eraseIdx i).map f
  | [], _ => rfl
  | _ :: _, 0 => rfl
  | a :: l, i + 1 => congrArg (f a :: ·) (erase_map f l i)
theorem set_ints {ds : List Int} {i : Nat} {z : Int} : (ds.map V.int).set i (.int z) = (ds.set i z).map V.int := by
  rw [List.map_set]
theorem ok_law_off (D : Def1 K mg "_law_off" s_law_off) (B : Bl mg) : Cal P w K mg base 1 "_law_off" ["_law_d", "_law_most"] spOff := by
  refine D.cal sc_law_off (fun _ _ _ _ _ _ us hl => match us, hl with | [_, _], _ => rfl) (fun vs H Q E h => ?_) (fun f cdv A outer s H vs Q E hr h => ?_)
  · obtain ⟨D, ds, m, rfl, _⟩ := h
    rfl
  · obtain ⟨D, ds, m, rfl, hm, h2, hD, k⟩ := h
    refine ⟨_, (pss_cut (ps_if (PW.pt (pw_and (pt_cmpR op_eq (pe_ix ix_list (pv 0) pe_int (fun _ _ => rfl)) pe_int (nomark _)) (pw_and1 (pt_cmpR op_gt (pe_callB call_len_seq (by rfl) B.len PySem.boot_len (pa_cons (pv 0) pa_nil)) pe_int (nomark _))))) (pss_one (ps_asg (pe_bm PySem.F.plainAttrs_list PySem.F.slot_list_pop PySem.F.type_list_pop mt_popAt (pv 0) (pa_cons pe_int pa_nil)) (pg_sub (pv 0) pe_int set_list)))
 pss_nil)
 (pss_cons (ps_if (pt_cmpR op_gt (pe_ix ix_list (pv 0) pe_int (fun _ _ => rfl)) pe_int (nomark _)) (pss_cons (ps_set (i := 2) sc_law_off.nd rfl (Or.inl rfl) (pe_op op_mod (pe_ix ix_list (pv 0) pe_int (fun _ _ => rfl)) (pv 1)))
 (pss_cons (ps_asg (pe_op op_fdiv (pe_ix ix_list (pv 0) pe_int (fun _ _ => rfl)) (pv 1)) (pg_sub (pv 0) pe_int set_list))
 (pss_one (ps_ret (pv 2)))))
 pss_nil)
 (pss_cons (ps_asg (pe_op op_mod (pe_op op_add (pe_op op_mul (pe_ix ix_list (pv 0) pe_int (fun _ _ => rfl)) pe_int) pe_int) pe_int) (pg_sub (pv 0) pe_int set_list))
 (pss_one (ps_ret (pe_op op_mod (pe_op op_fdiv (pe_ix ix_list (pv 0) pe_int (fun _ _ => rfl)) pe_int) (pv 1))))))), ?_⟩
    have ix1 : ∀ {H' : Hp} {ds' : List Int} {y : Option V}, 2 ≤ ds'.length → H' D = some (.lst (ds'.map V.int)) → Ev (tOp (rIxL K) (tVar 0) (tC (.int 1))) [some (.ref D), some (.int (m : Nat)), y] H' (.int (ds'.getD 1 0)) :=
      fun hl hd => ev_op (ev_var rfl) ev_c (rv_ixL (sq_of hd) (get_ints (i := 1) hl))
    have ix0 : ∀ {H' : Hp} {ds' : List Int} {y : Option V}, 2 ≤ ds'.length → H' D = some (.lst (ds'.map V.int)) → Ev (tOp (rIxL K) (tVar 0) (tC (.int 0))) [some (.ref D), some (.int (m : Nat)), y] H' (.int (ds'.getD 0 0)) :=
      fun hl hd => ev_op (ev_var rfl) ev_c (rv_ixL (sq_of hd) (get_ints (i := 0) (by omega)))
    refine q_cut (M := fun σ H' => ∃ ds' : List Int, σ = [some (.ref D), some (.int (m : Nat)), none] ∧ ExB D H H' ∧ 2 ≤ ds'.length ∧ H' D = some (.lst (ds'.map V.int))) ?_ ?_
    · refine s_when (b := decide (V.int (ds.getD 1 0) = V.int 0) && decide (2 < ((ds.length : Nat) : Int))) (et_and (et_test (ev_op (ix1 h2 hD) ev_c (rv_eq rfl))) (fun _ => et_test (ev_is (ev_op (ev_len (ev_var rfl) (sq_of hD)) ev_c rv_I0) (by simp)))) (fun hb H1 e1 => ?_) (fun hb H1 e1 => ⟨ds, rfl, Ex.b e1, h2, e1 _ _ hD⟩)
      have h3 : 2 < ds.length := by
        have := (Bool.and_eq_true_iff.mp hb).2
        have := of_decide_eq_true this
        omega
      have hD1 := e1 _ _ hD
      refine ⟨.ref D, rfl, Or.inl ⟨rfl, _, sq_of hD1⟩, D, ds.map V.int, 2, 2, .int (ds.getD 2 0), rfl, rfl, hD1, by decide, by decide, ?_, ?_, ?_⟩
      · unfold seqIndex?
        rw [List.length_map]
        simp only [show ¬ ((2 : Int) < 0) by decide, if_false]
        rw [if_pos (by simp; omega)]
        rfl
      · rw [List.getElem?_map, List.getElem?_eq_getElem h3, List.getD_eq_getElem?_getD, List.getElem?_eq_getElem h3]
        rfl
      · refine ⟨.ref D, rfl, D, (ds.map V.int).eraseIdx 2, 1, 1, rfl, rfl, upd_same, ?_, ?_⟩
        · unfold ixN
          rw [if_pos (by decide), if_pos (by rw [List.length_eraseIdx, List.length_map, if_pos h3]; omega)]
          rfl
        · refine ⟨(ds.eraseIdx 2).set 1 (ds.getD 2 0), rfl, (Ex.b e1).trans (ExB.upd.trans ExB.upd), ?_, ?_⟩
          · rw [List.length_set, List.length_eraseIdx, if_pos h3]
            omega
          · rw [upd_same, ← set_ints]
            congr 2
            congr 1
            exact erase_map _ _ _
    · rintro σ' H' ⟨ds', rfl, e', h2', hD'⟩
      refine q_when (b := decide (0 < ds'.getD 1 0)) (et_test (ev_op (ix1 h2' hD') ev_c rv_I0)) (fun hb H1 e1 => ?_) (fun hb H1 e1 => ?_)
      · have hD1 := e1 _ _ hD'
        refine q_asg (v := .int (ds'.getD 1 0 % (m : Nat))) (ev_op (ix1 h2' hD1) (ev_var rfl) (rv_I (by show (0 : Int) < (m : Nat); omega))) fun H2 e2 => ?_
        have hD2 := e2 _ _ hD1
        refine q_setL (j := 1) (xs := ds'.map V.int) hD2 (v := .int (ds'.getD 1 0 / (m : Nat))) (ev_op (ix1 h2' hD2) (ev_var rfl) (rv_I (by show (0 : Int) < (m : Nat) ∧ (m : Nat) < (1073741824 : Int); omega))) (ev_var rfl) ev_c (by rw [List.length_map]; omega) fun H3 e3 => ?_
        have hr0 : 0 ≤ ds'.getD 1 0 % (m : Nat) := Int.emod_nonneg _ (by omega)
        have hr1 : ds'.getD 1 0 % (m : Nat) < (m : Nat) := Int.emod_lt_of_pos _ (by omega)
        refine s_ret (v := .int (ds'.getD 1 0 % (m : Nat))) (ev_var rfl) fun H4 e4 => ?_
        have hz : ((ds'.getD 1 0 % (m : Nat)).toNat : Int) = ds'.getD 1 0 % (m : Nat) := Int.toNat_of_nonneg hr0
        have := k (ds'.getD 1 0 % (m : Nat)).toNat (ds'.set 1 (ds'.getD 1 0 / (m : Nat))) H4 (by omega) (by rw [List.length_set]; exact h2') (e'.trans ((Ex.b ((e1.trans e2).trans e3)).trans (ExB.upd.trans (Ex.b e4)))) (e4 _ _ (by rw [upd_same, set_ints]))
        rw [hz] at this
        exact this
      · have hD1 := e1 _ _ hD'
        refine q_setL (j := 0) (xs := ds'.map V.int) hD1 (v := .int ((ds'.getD 0 0 * 48271 + 11) % 2147483647)) (ev_op (ev_op (ev_op (ix0 h2' hD1) ev_c (rv_I (Or.inr ⟨by decide, by decide⟩))) ev_c rv_I0) ev_c (rv_I (by decide))) (ev_var rfl) ev_c (by rw [List.length_map]; omega) fun H2 e2 => ?_
        have hD2 : (upd H2 D (.lst ((ds'.map V.int).set 0 (.int ((ds'.getD 0 0 * 48271 + 11) % 2147483647))))) D = some (.lst ((ds'.set 0 ((ds'.getD 0 0 * 48271 + 11) % 2147483647)).map V.int)) := by rw [upd_same, set_ints]
        have hl2 : 2 ≤ (ds'.set 0 ((ds'.getD 0 0 * 48271 + 11) % 2147483647)).length := by rw [List.length_set]; exact h2'
        generalize (ds'.set 0 ((ds'.getD 0 0 * 48271 + 11) % 2147483647)) = es at hD2 hl2
        generalize hg : (upd H2 D (.lst ((ds'.map V.int).set 0 (.int ((ds'.getD 0 0 * 48271 + 11) % 2147483647))))) = H3 at hD2
        have e3 : ExB D H H3 := by
          rw [← hg]
          exact e'.trans ((Ex.b (e1.trans e2)).trans ExB.upd)
        have hr0 : 0 ≤ es.getD 0 0 / 64 % (m : Nat) := Int.emod_nonneg _ (by omega)
        have hr1 : es.getD 0 0 / 64 % (m : Nat) < (m : Nat) := Int.emod_lt_of_pos _ (by omega)
        refine s_ret (v := .int (es.getD 0 0 / 64 % (m : Nat))) (ev_op (ev_op (ix0 hl2 hD2) ev_c (rv_I (by show (0 : Int) < 64 ∧ (64 : Int) < 1073741824; decide))) (ev_var rfl) (rv_I (by show (0 : Int) < (m : Nat); omega))) fun H4 e4 => ?_
        have hz : ((es.getD 0 0 / 64 % (m : Nat)).toNat : Int) = es.getD 0 0 / 64 % (m : Nat) := Int.toNat_of_nonneg hr0
        have := k (es.getD 0 0 / 64 % (m : Nat)).toNat es H4 (by omega) hl2 (e3.trans (Ex.b e4)) (e4 _ _ hD2)
        rw [hz] at this
        exact this
end
end Bm
namespace Bm
open PySem PySem.Spec PyProof.Rows L2 Evl
section
variable {P : Program} {w : World} {K : PySem.W.Frag} {mg : PySem.Str → Option Value} {base : Heap}
/-! ### _law_alike -/
abbrev s_law_alike : Stmt := topS 19
theorem sc_law_alike : FnScope ["_law_found", "_law_due", "_law_k"] ["_law_found", "_law_due"] (defScope s_law_alike) := ⟨rfl, rfl, rfl, by decide +kernel, rfl, by decide +kernel, by decide +kernel⟩
def spAlike (K : PySem.W.Frag) (n : Nat) : Sp := fun vs H Q _ => ∃ v u : V, vs = [v, u] ∧ Al K H n v u ∧ RetV (.bl true) H Q
def rNotV : V → V → Bool := fun x y => !decide (x = y)
theorem alike_turn (D : Def1 K mg "_law_alike" s_law_alike) (B : Bl mg) {n : Nat} {sp' : Sp} (c_law_alike : Cal P w K mg base n "_law_alike" ["_law_found", "_law_due"] sp') (hs : ∀ m, n = m + 1 → ∀ (H : Hp) (x y : V), Al K H m x y → SpV sp' [x, y] H (.bl true)) :
    Cal P w K mg base (n + 1) "_law_alike" ["_law_found", "_law_due"] (spAlike K n) := by
  refine D.cal sc_law_alike (fun _ _ _ _ _ _ us hl => match us, hl with | [_, _], _ => rfl) (fun vs H Q E h => ?_) (fun f cdv A outer s H vs Q E hr h => ?_)
  · obtain ⟨v, u, rfl, _⟩ := h
    rfl
  · obtain ⟨v, u, rfl, ha, k⟩ := h
    refine ⟨_, (pss_cons (ps_if (pt_cmpR op_isN (pv 1) pe_non (nomark _)) (pss_one (ps_ret (pe_cmpR op_isN (pv 0) pe_non (nomark _))))
 pss_nil)
 (pss_cons (ps_if (pt_val (pe_callB call_isi (by rfl) B.isinstance (by decide +kernel) (pa_cons (pv 1) (pa_cons (pe_bltn (v := .ty "bool") (by rfl) B.bool (by decide +kernel) rfl) pa_nil)))) (pss_one (ps_ret (pe_and (pe_callB call_isi (by rfl) B.isinstance (by decide +kernel) (pa_cons (pv 0) (pa_cons (pe_bltn (v := .ty "bool") (by rfl) B.bool (by decide +kernel) rfl) pa_nil))) (pe_one (pe_cmpR op_eq (pv 0) (pv 1) (nomark _))))))
 pss_nil)
 (pss_cons (ps_if (pt_val (pe_callB call_isi (by rfl) B.isinstance (by decide +kernel) (pa_cons (pv 1) (pa_cons (pe_bltn (v := .ty "int") (by rfl) B.int (by decide +kernel) rfl) pa_nil)))) (pss_one (ps_ret (pe_and (pe_callB call_isi (by rfl) B.isinstance (by decide +kernel) (pa_cons (pv 0) (pa_cons (pe_bltn (v := .ty "int") (by rfl) B.int (by decide +kernel) rfl) pa_nil))) (pe_and (pe_not (pe_callB call_isi (by rfl) B.isinstance (by decide +kernel) (pa_cons (pv 0) (pa_cons (pe_bltn (v := .ty "bool") (by rfl) B.bool (by decide +kernel) rfl) pa_nil)))) (pe_one (pe_cmpR op_eq (pv 0) (pv 1) (nomark _)))))))
 pss_nil)
 (pss_cons (ps_if (pt_val (pe_callB call_isi (by rfl) B.isinstance (by decide +kernel) (pa_cons (pv 1) (pa_cons (pe_bltn (v := .ty "str") (by rfl) B.str (by decide +kernel) rfl) pa_nil)))) (pss_one (ps_ret (pe_and (pe_callB call_isi (by rfl) B.isinstance (by decide +kernel) (pa_cons (pv 0) (pa_cons (pe_bltn (v := .ty "str") (by rfl) B.str (by decide +kernel) rfl) pa_nil))) (pe_one (pe_cmpR op_eq (pv 0) (pv 1) (nomark _))))))
 pss_nil)
 (pss_cons (ps_if (PW.pt (pw_or (pt_cmpR op_ne (pe_callB call_isi (by rfl) B.isinstance (by decide +kernel) (pa_cons (pv 1) (pa_cons (pe_bltn (v := .ty "tuple") (by rfl) B.tuple (by decide +kernel) rfl) pa_nil))) (pe_callB call_isi (by rfl) B.isinstance (by decide +kernel) (pa_cons (pv 0) (pa_cons (pe_bltn (v := .ty "tuple") (by rfl) B.tuple (by decide +kernel) rfl) pa_nil))) (nomark _)) (pw_or1 (pt_cmpR op_ne (pe_callB call_isi (by rfl) B.isinstance (by decide +kernel) (pa_cons (pv 1) (pa_cons (pe_bltn (v := .ty "list") (by rfl) B.list (by decide +kernel) rfl) pa_nil))) (pe_callB call_isi (by rfl) B.isinstance (by decide +kernel) (pa_cons (pv 0) (pa_cons (pe_bltn (v := .ty "list") (by rfl) B.list (by decide +kernel) rfl) pa_nil))) (nomark _))))) (pss_one (ps_ret pe_bl))
 pss_nil)
 (pss_cons (ps_if (pt_cmpR op_ne (pe_callB call_len_seq (by rfl) B.len PySem.boot_len (pa_cons (pv 0) pa_nil)) (pe_callB call_len_seq (by rfl) B.len PySem.boot_len (pa_cons (pv 1) pa_nil)) (nomark _)) (pss_one (ps_ret pe_bl))
 pss_nil)
 (pss_one (ps_ret (pe_callB (cr_all rfl) (by rfl) B.all (by decide +kernel) (pa_cons (pe_lc (own := [("_law_k", 2)]) (g := gName 2) rfl sc_law_alike.nd (pi_range1 (by rfl) B.range (pa_cons (pe_callB call_len_seq (by rfl) B.len PySem.boot_len (pa_cons (pv 1) pa_nil)) pa_nil)) (blkOk_by (N := ["_law_found", "_law_due", "_law_k"]) (sc := defScope s_law_alike) (by decide +kernel)) (fun _ _ _ _ _ => (pg_name (i := 2) sc_law_alike.nd rfl (Or.inl rfl))) (fun _ _ _ _ _ => pts_nil) (fun _ _ _ _ _ => (pe_callC c_law_alike hr (Nat.le_refl _) (pa_cons (pe_ix (r := rIx K) ix_seq (pv 0) (pv 2) (fun _ _ => rfl)) (pa_cons (pe_ix (r := rIx K) ix_seq (pv 1) (pv 2) (fun _ _ => rfl)) pa_nil))))) pa_nil)))))))))), ?_⟩
    have hcase : (v = u ∧ sc1 v = true) ∨ ∃ m, n = m + 1 ∧ ∃ a b xs ys, v = .ref a ∧ u = .ref b ∧ ((SqL K H a xs ∧ SqL K H b ys) ∨ (SqT K H a xs ∧ SqT K H b ys)) ∧ xs.length = ys.length ∧ xs.length ≤ 40000 ∧
        ∀ (i : Nat) x y, xs[i]? = some x → ys[i]? = some y → Al K H m x y := by
      cases n with
      | zero => exact .inl ha
      | succ m =>
        rcases ha with h | h
        · exact .inl h
        · exact .inr ⟨m, rfl, h⟩
    rcases hcase with ⟨rfl, hv⟩ | ⟨m, hm, a, b, xs, ys, rfl, rfl, hq, hlen, hz, hi⟩
    · cases v with
      | non =>
        refine q_when (b := true) (et_is (et_test (ev_isN (x := .non) (ev_var rfl))) rfl) (fun _ H1 e1 => ?_) (fun hb => nomatch hb)
        exact s_ret (v := .bl true) (ev_isN (x := .non) (ev_var rfl)) fun H2 e2 => k H2 (e1.trans e2)
      | bl c =>
        refine q_when (b := false) (et_is (et_test (ev_isN (x := .bl c) (ev_var rfl))) rfl) (fun hb => nomatch hb) (fun _ H1 e1 => ?_)
        refine q_when (b := true) (et_B (ev_isi (a := "bool") (ev_var rfl) (fun _ _ => .base (.bl c)) (by decide +kernel))) (fun _ H2 e2 => ?_) (fun hb => nomatch hb)
        exact s_ret (v := .bl true) (ev_andV (a := true) (ev_isi (a := "bool") (ev_var rfl) (fun _ _ => .base (.bl c)) (by decide +kernel)) (fun _ => ev_is (ev_op (ev_var rfl) (ev_var rfl) (rv_eq (x := .bl c) (y := .bl c) rfl)) (by rw [decide_eq_true rfl]))) fun H3 e3 => k H3 ((e1.trans e2).trans e3)
      | int c =>
        refine q_when (b := false) (et_is (et_test (ev_isN (x := .int c) (ev_var rfl))) rfl) (fun hb => nomatch hb) (fun _ H1 e1 => ?_)
        refine q_when (b := false) (et_B (ev_isi (a := "int") (ev_var rfl) (fun _ _ => .base (.int c)) (by decide +kernel))) (fun hb => nomatch hb) (fun _ H2 e2 => ?_)
        refine q_when (b := true) (et_B (ev_isi (a := "int") (ev_var rfl) (fun _ _ => .base (.int c)) (by decide +kernel))) (fun _ H3 e3 => ?_) (fun hb => nomatch hb)
        exact s_ret (v := .bl true) (ev_andV (a := true) (ev_isi (a := "int") (ev_var rfl) (fun _ _ => .base (.int c)) (by decide +kernel)) (fun _ => ev_andV (a := true) (b := true) (ev_notV (a := false) (ev_isi (a := "int") (ev_var rfl) (fun _ _ => .base (.int c)) (by decide +kernel))) (fun _ => ev_is (ev_op (ev_var rfl) (ev_var rfl) (rv_eq (x := .int c) (y := .int c) rfl)) (by rw [decide_eq_true rfl])))) fun H4 e4 => k H4 (((e1.trans e2).trans e3).trans e4)
      | str c =>
        refine q_when (b := false) (et_is (et_test (ev_isN (x := .str c) (ev_var rfl))) rfl) (fun hb => nomatch hb) (fun _ H1 e1 => ?_)
        refine q_when (b := false) (et_B (ev_isi (a := "str") (ev_var rfl) (fun _ _ => .base (.str c)) (by decide +kernel))) (fun hb => nomatch hb) (fun _ H2 e2 => ?_)
        refine q_when (b := false) (et_B (ev_isi (a := "str") (ev_var rfl) (fun _ _ => .base (.str c)) (by decide +kernel))) (fun hb => nomatch hb) (fun _ H3 e3 => ?_)
        refine q_when (b := true) (et_B (ev_isi (a := "str") (ev_var rfl) (fun _ _ => .base (.str c)) (by decide +kernel))) (fun _ H4 e4 => ?_) (fun hb => nomatch hb)
        exact s_ret (v := .bl true) (ev_andV (a := true) (ev_isi (a := "str") (ev_var rfl) (fun _ _ => .base (.str c)) (by decide +kernel)) (fun _ => ev_is (ev_op (ev_var rfl) (ev_var rfl) (rv_eq (x := .str c) (y := .str c) rfl)) (by rw [decide_eq_true rfl]))) fun H5 e5 => k H5 ((((e1.trans e2).trans e3).trans e4).trans e5)
      | byt c => cases hv
      | flt c => cases hv
      | ref c => cases hv
      | ty c => cases hv
    · -- a list or a tuple
      obtain ⟨T, rt, rl, hkb, hki, hks, hkt, hkl, htA, htB⟩ : ∃ (T : String) (rt rl : Bool), kitB T "bool" = some false ∧ kitB T "int" = some false ∧ kitB T "str" = some false ∧ kitB T "tuple" = some rt ∧ kitB T "list" = some rl ∧ (∀ H', Ex H H' → TyX K H' (.ref a) (.type T)) ∧ (∀ H', Ex H H' → TyX K H' (.ref b) (.type T)) := by
        rcases hq with ⟨h1, h2⟩ | ⟨h1, h2⟩
        · exact ⟨"list", false, true, by decide +kernel, by decide +kernel, by decide +kernel, by decide +kernel, by decide +kernel, fun H' e => ty_l (ex_l e h1), fun H' e => ty_l (ex_l e h2)⟩
        · exact ⟨"tuple", true, false, by decide +kernel, by decide +kernel, by decide +kernel, by decide +kernel, by decide +kernel, fun H' e => ty_t (ex_t e h1), fun H' e => ty_t (ex_t e h2)⟩
      have hqA : ∀ {H'}, Ex H H' → SqL K H' a xs ∨ SqT K H' a xs := fun e => by
        rcases hq with ⟨h1, h2⟩ | ⟨h1, h2⟩
        · exact .inl (ex_l e h1)
        · exact .inr (ex_t e h1)
      have hqB : ∀ {H'}, Ex H H' → SqL K H' b ys ∨ SqT K H' b ys := fun e => by
        rcases hq with ⟨h1, h2⟩ | ⟨h1, h2⟩
        · exact .inl (ex_l e h2)
        · exact .inr (ex_t e h2)
      have isA : ∀ {H' : Hp} {y : Option V} {T' : String} {r : Bool}, Ex H H' → kitB T T' = some r → Ev (tCB (rIsi K) (tCons (tVar 0) (tCons (tC (.ty T')) tNil))) [some (.ref a), some (.ref b), y] H' (.bl r) := fun e hk => ev_isi (ev_var rfl) (fun H1 e1 => htA H1 (e.trans e1)) hk
      have isB : ∀ {H' : Hp} {y : Option V} {T' : String} {r : Bool}, Ex H H' → kitB T T' = some r → Ev (tCB (rIsi K) (tCons (tVar 1) (tCons (tC (.ty T')) tNil))) [some (.ref a), some (.ref b), y] H' (.bl r) := fun e hk => ev_isi (ev_var rfl) (fun H1 e1 => htB H1 (e.trans e1)) hk
      have lnA : ∀ {H' : Hp} {y : Option V}, Ex H H' → Ev (tCB (rLenS K) (tCons (tVar 0) tNil)) [some (.ref a), some (.ref b), y] H' (.int (xs.length : Nat)) := fun e => fun H1 e1 Q q => ⟨.ref a, rfl, a, xs, rfl, hqA (e.trans e1), q H1 (Ex.refl H1)⟩
      have lnB : ∀ {H' : Hp} {y : Option V}, Ex H H' → Ev (tCB (rLenS K) (tCons (tVar 1) tNil)) [some (.ref a), some (.ref b), y] H' (.int (ys.length : Nat)) := fun e => fun H1 e1 Q q => ⟨.ref b, rfl, b, ys, rfl, hqB (e.trans e1), q H1 (Ex.refl H1)⟩
      refine q_when (b := false) (et_is (et_test (ev_isN (x := .ref b) (ev_var rfl))) rfl) (fun hb => nomatch hb) (fun _ H1 e1 => ?_)
      refine q_when (b := false) (et_B (isB e1 hkb)) (fun hb => nomatch hb) (fun _ H2 e2 => ?_)
      have e12 := e1.trans e2
      refine q_when (b := false) (et_B (isB e12 hki)) (fun hb => nomatch hb) (fun _ H3 e3 => ?_)
      have e13 := e12.trans e3
      refine q_when (b := false) (et_B (isB e13 hks)) (fun hb => nomatch hb) (fun _ H4 e4 => ?_)
      have e14 := e13.trans e4
      refine q_when (b := false) (et_is (et_or (a := !decide (V.bl rt = V.bl rt)) (b := !decide (V.bl rl = V.bl rl)) (et_test (ev_op (isB e14 hkt) (isA e14 hkt) (rv_ne rfl))) (fun _ => et_test (ev_op (isB e14 hkl) (isA e14 hkl) (rv_ne rfl)))) (by rw [decide_eq_true rfl, decide_eq_true rfl]; rfl)) (fun hb => nomatch hb) (fun _ H5 e5 => ?_)
      have e15 := e14.trans e5
      refine q_when (b := false) (et_is (et_test (ev_op (lnA e15) (lnB e15) (rv_ne rfl))) (by rw [hlen, decide_eq_true rfl]; rfl)) (fun hb => nomatch hb) (fun _ H6 e6 => ?_)
      have e16 := e15.trans e6
      have el : EvL (tLc (iRng1 (tCons (tCB (rLenS K) (tCons (tVar 1) tNil)) tNil)) (gName 2) tYes (tCall sp' [] E0 (tCons (tOp (rIx K) (tVar 0) (tVar 2)) (tCons (tOp (rIx K) (tVar 1) (tVar 2)) tNil))) [2]) [some (.ref a), some (.ref b), none] H6 (given ys.length (fun _ => true) (fun _ => .bl true)) := by
        refine el_lcR1 (n := ((ys.length : Nat) : Int)) (fun _ => true) (fun _ => .bl true) (ea_cons (lnB e16) ea_nil) (by omega) (fun _ => rfl) (fun i H7 e7 hi' => fun H8 e8 Q q => q H8 (Ex.refl H8)) (fun i H7 e7 hi' _ => ?_)
        have hix : i < xs.length := by omega
        have hiy : i < ys.length := by omega
        have gx := List.getElem?_eq_getElem hix
        have gy := List.getElem?_eq_getElem hiy
        have e17 := e16.trans e7
        have evA : Ev (tOp (rIx K) (tVar 0) (tVar 2)) [some (.ref a), some (.ref b), some (.int (i : Nat))] H7 xs[i] := ev_op (ev_var rfl) (ev_var rfl) fun H8 e8 Q q => by
          rcases hqA (e17.trans e8) with h | h
          · exact .inl ⟨a, xs, (i : Nat), _, rfl, rfl, h, atI_nat gx, q H8 (Ex.refl H8)⟩
          · exact .inr (.inl ⟨a, xs, (i : Nat), _, rfl, rfl, h, atI_nat gx, q H8 (Ex.refl H8)⟩)
        have evB : Ev (tOp (rIx K) (tVar 1) (tVar 2)) [some (.ref a), some (.ref b), some (.int (i : Nat))] H7 ys[i] := ev_op (ev_var rfl) (ev_var rfl) fun H8 e8 Q q => by
          rcases hqB (e17.trans e8) with h | h
          · exact .inl ⟨b, ys, (i : Nat), _, rfl, rfl, h, atI_nat gy, q H8 (Ex.refl H8)⟩
          · exact .inr (.inl ⟨b, ys, (i : Nat), _, rfl, rfl, h, atI_nat gy, q H8 (Ex.refl H8)⟩)
        exact ev_call (ea_cons evA (ea_cons evB ea_nil)) (hs m hm H7 _ _ ((hi i _ _ gx gy).up e17))
      refine s_ret (v := .bl true) (ev_cbL el fun p H7 h7 e7 H8 e8 Q q => ⟨p, List.replicate ys.length true, rfl, ?_, ?_⟩) fun H7 e7 => k H7 (e16.trans e7)
      · refine sq_of ((e8 _ _ h7).trans ?_)
        congr 2
        unfold given
        rw [List.filter_eq_self.mpr (fun _ _ => rfl), List.map_replicate]
        exact List.map_const' .. |>.trans (by rw [List.length_range])
      · have ht : (List.replicate ys.length true).all id = true := by
          rw [List.all_eq_true]
          intro z hz
          exact (List.eq_of_mem_replicate hz)
        rw [ht]
        exact q H8 (Ex.refl H8)
theorem ok_law_alike (D : Def1 K mg "_law_alike" s_law_alike) (B : Bl mg) : ∀ n, Cal P w K mg base (n + 1) "_law_alike" ["_law_found", "_law_due"] (spAlike K n)
  | 0 => by
    obtain ⟨f, fd, F, hm⟩ := D.ex
    have C0 : Cal P w K mg base 0 "_law_alike" ["_law_found", "_law_due"] (fun _ _ _ _ => False) := ⟨f, fd, ⟨fun _ _ _ _ h => h.elim, fun _ _ _ _ _ _ _ _ _ _ _ _ _ h => h.elim⟩, hm, F.kp, F.bindsN (fun _ _ _ _ _ _ us hl => match us, hl with | [_, _], _ => rfl), by
      obtain ⟨oc, od, _, _, _, _, _, _, _, osl, _, lk, _⟩ := F.ex
      exact ⟨oc, od, osl, lk⟩⟩
    exact alike_turn D B C0 fun m h => nomatch h
  | n + 1 => alike_turn D B (ok_law_alike D B n) fun m h H x y ha H1 e Q q E => by
    cases h
    exact ⟨x, y, rfl, ha.up e, q⟩
end
end Bm
namespace Bm
open PySem PySem.Spec PyProof.Rows L2 Evl
section
variable {P : Program} {w : World} {K : PySem.W.Frag} {mg : PySem.Str → Option Value} {base : Heap}
/-! ### _law_ones -/
abbrev s_law_ones : Stmt := topS 20
theorem sc_law_ones : FnScope ["_law_pattern", "_law_at"] ["_law_pattern"] (defScope s_law_ones) := ⟨rfl, rfl, rfl, by decide +kernel, rfl, by decide +kernel, by decide +kernel⟩
theorem ok_law_ones (D : Def1 K mg "_law_ones" s_law_ones) (B : Bl mg) : Cal P w K mg base 1 "_law_ones" ["_law_pattern"] spOnes := by
  refine D.cal sc_law_ones (fun _ _ _ _ _ _ us hl => match us, hl with | [_], _ => rfl) (fun vs H Q E h => ?_) (fun f cdv A outer s H vs Q E hr h => ?_)
  · obtain ⟨p, rfl, _⟩ := h
    rfl
  · obtain ⟨p, rfl, hp, k⟩ := h
    refine ⟨_, (pss_one (ps_ret (pe_lc (own := [("_law_at", 1)]) (g := gName 1) rfl sc_law_ones.nd (pi_range1 (by rfl) B.range (pa_cons (pe_callB call_len_str (by rfl) B.len PySem.boot_len (pa_cons (pv 0) pa_nil)) pa_nil)) (blkOk_by (N := ["_law_pattern", "_law_at"]) (sc := defScope s_law_ones) (by decide +kernel)) (fun _ _ _ _ _ => (pg_name (i := 1) sc_law_ones.nd rfl (Or.inl rfl))) (fun _ _ _ _ _ => (pts_one (pt_cmpR op_eq (pe_ix ix_str (pv 0) (pv 1) (fun _ _ => rfl)) pe_str (nomark _)))) (fun _ _ _ _ _ => (pv 1))))), ?_⟩
    refine s_retL (el_lcR1 (n := ((p.length : Nat) : Int)) (fun i => p.getD i false) (fun i => .int (i : Nat)) (ea_cons (ev_lenS (ev_var rfl) hp) ea_nil) (by omega) (fun _ => rfl) (fun i H1 e1 hi => ?_) (fun i H1 e1 hi _ => ev_var rfl)) fun a H1 ha e1 h1 => k a H1 ha e1 h1
    exact et_test (ev_is1 (ev_ixP (ev_var rfl) (ev_var rfl) (by omega) hp) ev_c)
/-! ### _law_all -/
abbrev s_law_all : Stmt := topS 21
theorem sc_law_all : FnScope ["_law_beats", "_law_some", "_law_at", "_law_text"] ["_law_beats"] (defScope s_law_all) := ⟨rfl, rfl, rfl, by decide +kernel, rfl, by decide +kernel, by decide +kernel⟩
def spLAll (K : PySem.W.Frag) : Sp := fun vs H Q _ => ∃ n : Nat, vs = [.int (n : Nat)] ∧ n ≤ 12 ∧ RetN K ((allP n).map cP) H Q
theorem ok_law_all (D : Def1 K mg "_law_all" s_law_all) (B : Bl mg) : Cal P w K mg base 1 "_law_all" ["_law_beats"] (spLAll K) := by
  refine D.cal sc_law_all (fun _ _ _ _ _ _ us hl => match us, hl with | [_], _ => rfl) (fun vs H Q E h => ?_) (fun f cdv A outer s H vs Q E hr h => ?_)
  · obtain ⟨n, rfl, _⟩ := h
    rfl
  · obtain ⟨n, rfl, hn, k⟩ := h
    refine ⟨_, (pss_cons (ps_set (i := 1) sc_law_all.nd rfl (Or.inl rfl) (pe_lst (pa_cons pe_str pa_nil)))
 (pss_cons (ps_for PassesOwn.never rfl (pi_range1 (by rfl) B.range (pa_cons (pv 0) pa_nil)) (pg_name (i := 2) sc_law_all.nd rfl (Or.inl rfl))
 (pss_one (ps_set (i := 1) sc_law_all.nd rfl (Or.inl rfl) (pe_op op_cat (pe_lc (own := [("_law_text", 3)]) (g := gName 3) rfl sc_law_all.nd (pi_list (pv 1)) (blkOk_by (N := ["_law_beats", "_law_some", "_law_at", "_law_text"]) (sc := defScope s_law_all) (by decide +kernel)) (fun _ _ _ _ _ => (pg_name (i := 3) sc_law_all.nd rfl (Or.inl rfl))) (fun _ _ _ _ _ => pts_nil) (fun _ _ _ _ _ => (pe_op op_add_str (pv 3) pe_str))) (pe_lc (own := [("_law_text", 3)]) (g := gName 3) rfl sc_law_all.nd (pi_list (pv 1)) (blkOk_by (N := ["_law_beats", "_law_some", "_law_at", "_law_text"]) (sc := defScope s_law_all) (by decide +kernel)) (fun _ _ _ _ _ => (pg_name (i := 3) sc_law_all.nd rfl (Or.inl rfl))) (fun _ _ _ _ _ => pts_nil) (fun _ _ _ _ _ => (pe_op op_add_str (pv 3) pe_str)))))))
 (pss_one (ps_ret (pe_callB (cr_sortedD hr) (by rfl) B.sorted (by decide +kernel) (pa_cons (pe_lc (own := [("_law_text", 3)]) (g := gName 3) rfl sc_law_all.nd (pi_list (pv 1)) (blkOk_by (N := ["_law_beats", "_law_some", "_law_at", "_law_text"]) (sc := defScope s_law_all) (by decide +kernel)) (fun _ _ _ _ _ => (pg_name (i := 3) sc_law_all.nd rfl (Or.inl rfl))) (fun _ _ _ _ _ => (pts_one (pt_cmpR op_in_sign pe_str (pv 3) (by rfl)))) (fun _ _ _ _ _ => (pe_tup (pa_cons (pe_m1 PySem.F.slot_str_count PySem.F.type_str_count mt_count (pv 3) pe_str) (pa_cons (pv 3) pa_nil))))) pa_nil)))))), ?_⟩
    have hl : ∀ j, j ≤ 12 → (lists2 j).length ≤ 4096 := fun j hj => by
      rw [lists2_len]
      exact Nat.le_trans (Nat.pow_le_pow_right (by decide) hj) (by decide)
    refine q_asgN (K := K) (cs := (lists2 0).map cT) (en_el (xs := [.str ""]) (el_lst (ea_cons ev_c ea_nil) (by show 1 ≤ 100000; decide))) fun o0 xs0 H1 _ e1 h1 i1 => ?_
    refine q_forR1 (n := ((n : Nat) : Int)) (ea_cons (ev_var rfl) ea_nil) (by omega)
      (fun j σ H' => (∃ o xs y2, σ = [some (.int (n : Nat)), some (.ref o), y2, none] ∧ H' o = some (.lst xs) ∧ IsAll K H' xs ((lists2 j).map cT)) ∧ Ex H H')
      (fun H2 e2 => ⟨⟨o0, xs0, _, rfl, e2 _ _ h1, i1.up e2⟩, e1.trans e2⟩) (fun j σ' H' hj pr => ?_) (fun σ' H' pr => ?_)
    · obtain ⟨⟨o, xs, y2, rfl, ho, io⟩, e⟩ := pr
      have hlj := hl j (by omega)
      have one : ∀ b : Bool, EvN K (tLc (iList K (tVar 1)) (gName 3) tYes (tOp rAddS (tVar 3) (tC (.str (txt [b])))) [3]) [some (.int (n : Nat)), some (.ref o), some (.int (j : Nat)), none] H' ((lists2 j).map fun t => cT (t ++ [b])) := fun b => by
        have := en_lcTL (K := K) (as := lists2 j) (c := cT) (t := tYes) (te := tOp rAddS (tVar 3) (tC (.str (txt [b])))) (tl := tVar 1) (a := o) (xs := xs) (j := 3) (vs := [3]) (σ := [some (.int (n : Nat)), some (.ref o), some (.int (j : Nat)), none]) (H := H') (fun _ => true) (fun t => cT (t ++ [b])) (ev_var rfl) (sq_of ho) io (by omega) (fun _ => rfl) (fun a ha x H1 e1 ix => et_yes) (fun a ha x H1 e1 ix _ => by
          have hx : x = .str (txt a) := ix
          subst hx
          have := mem_lists2.mp ha
          exact ec_ev (ev_addS (ev_var rfl) ev_c (by simp; omega)))
        rw [List.filter_eq_self.mpr (fun _ _ => rfl)] at this
        exact this
      refine s_asgN (K := K) (cs := (lists2 j).map (fun t => cT (t ++ [false])) ++ (lists2 j).map (fun t => cT (t ++ [true]))) (en_cat (one false) (one true) (by rw [List.length_map, List.length_map]; omega)) fun o2 xs2 H2 _ e2 h2 i2 => ?_
      refine ⟨⟨o2, xs2, _, rfl, h2, ?_⟩, e.trans e2⟩
      have e0 : (lists2 (j + 1)).map cT = (lists2 j).map (fun t => cT (t ++ [false])) ++ (lists2 j).map (fun t => cT (t ++ [true])) := by
        conv => lhs; unfold lists2
        rw [List.map_append, List.map_map, List.map_map]
        rfl
      rw [e0]
      exact i2
    · obtain ⟨⟨o, xs, y2, rfl, ho, io⟩, e⟩ := pr
      have en0 : (((n : Nat) : Int)).toNat = n := rfl
      rw [en0] at io
      have hln := hl n hn
      have en := en_lcTL (K := K) (as := lists2 n) (c := cT) (t := tTest (tOp rSignIn (tC (.str "1")) (tVar 3))) (te := tTup (tCons (tM1 rCount (tVar 3) (tC (.str "1"))) (tCons (tVar 3) tNil))) (tl := tVar 1) (a := o) (xs := xs) (j := 3) (vs := [3]) (σ := [some (.int (n : Nat)), some (.ref o), y2, none]) (H := H') (fun t => decide (true ∈ t)) (fun t => cP (ct t, t)) (ev_var rfl) (sq_of ho) io (by omega) (fun _ => rfl) (fun a ha x H1 e1 ix => by
          have hx : x = .str (txt a) := ix
          subst hx
          exact et_test (ev_1in ev_c (ev_var rfl))) (fun a ha x H1 e1 ix _ => by
          have hx : x = .str (txt a) := ix
          subst hx
          exact ec_tup (ea_cons (ev_count (ev_var rfl) ev_c) (ea_cons (ev_var rfl) ea_nil)) (by show 2 ≤ 1000; decide))
      have e1 : ((lists2 n).filter fun t => decide (true ∈ t)).map (fun t => cP (ct t, t)) = ((rawP n).map encP).map cIS := by
        unfold rawP
        rw [List.map_map, List.map_map]
        rfl
      rw [e1] at en
      have es := en_sortN en (by
        rw [List.length_map]
        unfold rawP
        rw [List.length_map]
        have := List.length_filter_le (fun t => decide (true ∈ t)) (lists2 n)
        omega)
      rw [sorted_all, List.map_map] at es
      exact s_retN (K := K) es fun p ys H2 hp e2 h2 i2 => k p ys H2 (fresh_back e hp) (e.trans e2) h2 i2
/-! ### _law_apart -/
abbrev s_law_apart : Stmt := topS 22
theorem sc_law_apart : FnScope ["_law_pattern", "_law_some", "_law_found", "_law_one", "_law_other"] ["_law_pattern"] (defScope s_law_apart) := ⟨rfl, rfl, rfl, by decide +kernel, rfl, by decide +kernel, by decide +kernel⟩
def spApart : Sp := fun vs H Q _ => ∃ p : List Bool, vs = [.str (txt p)] ∧ (0 < p.length ∧ p.length ≤ 12) ∧ RetL ((apartM p).map fun d => V.int (d : Nat)) H Q
theorem apL_len (p : List Bool) (as : List Nat) : (apL p as).length = as.length * (ones p).length := by
  unfold apL
  induction as with
  | nil => simp
  | cons a as ih => rw [List.flatMap_cons, List.length_append, ih, List.length_map, List.length_cons, Nat.succ_mul]; omega
theorem apL_succ {p : List Bool} {i a : Nat} (h : (ones p)[i]? = some a) : apL p ((ones p).take (i + 1)) = apL p ((ones p).take i) ++ (ones p).map fun o => (((o : Nat) : Int) - (a : Nat)) % (p.length : Nat) := by
  unfold apL
  rw [List.take_add_one, h, List.flatMap_append]
  simp
theorem ok_law_apart (D : Def1 K mg "_law_apart" s_law_apart) (B : Bl mg) (c_law_ones : Cal P w K mg base 1 "_law_ones" ["_law_pattern"] spOnes) : Cal P w K mg base 2 "_law_apart" ["_law_pattern"] spApart := by
  refine D.cal sc_law_apart (fun _ _ _ _ _ _ us hl => match us, hl with | [_], _ => rfl) (fun vs H Q E h => ?_) (fun f cdv A outer s H vs Q E hr h => ?_)
  · obtain ⟨p, rfl, _⟩ := h
    rfl
  · obtain ⟨p, rfl, ⟨hp, hp2⟩, k⟩ := h
    refine ⟨_, (pss_cons (ps_set (i := 1) sc_law_apart.nd rfl (Or.inl rfl) (pe_callC c_law_ones hr (by decide) (pa_cons (pv 0) pa_nil)))
 (pss_cons (ps_set (i := 2) sc_law_apart.nd rfl (Or.inl rfl) (pe_lst pa_nil))
 (pss_cons (ps_for PassesOwn.never rfl (pi_list (pv 1)) (pg_name (i := 3) sc_law_apart.nd rfl (Or.inr rfl))
 (pss_one (ps_set (i := 2) sc_law_apart.nd rfl (Or.inl rfl) (pe_op op_cat (pv 2) (pe_lc (own := [("_law_other", 4)]) (g := gName 4) rfl sc_law_apart.nd (pi_list (pv 1)) (blkOk_by (N := ["_law_pattern", "_law_some", "_law_found", "_law_one", "_law_other"]) (sc := defScope s_law_apart) (by decide +kernel)) (fun _ _ _ _ _ => (pg_name (i := 4) sc_law_apart.nd rfl (Or.inl rfl))) (fun _ _ _ _ _ => pts_nil) (fun _ _ _ _ _ => (pe_op op_mod (pe_op op_sub (pv 4) (pv 3)) (pe_callB call_len_str (by rfl) B.len PySem.boot_len (pa_cons (pv 0) pa_nil)))))))))
 (pss_one (ps_ret (pe_callB (cr_sortedSet rfl) (by rfl) B.sorted (by decide +kernel) (pa_cons (pe_callTy (cr_setL rfl) (by rfl) B.set (by decide +kernel) (pa_cons (pv 2) pa_nil)) pa_nil))))))), ?_⟩
    have hol := onesV_len p
    have hoe : (onesV p).length = (ones p).length := by unfold onesV; rw [List.length_map]
    have hol2 : ∀ i, (apL p ((ones p).take i)).length ≤ 144 := fun i => by
      rw [apL_len]
      have h1 : ((ones p).take i).length ≤ 12 := by rw [List.length_take]; omega
      exact Nat.le_trans (Nat.mul_le_mul h1 (show (ones p).length ≤ 12 by omega)) (by decide)
    refine q_asgL (xs := onesV p) (el_call (ea_cons (ev_var rfl) ea_nil) fun H1 e Q k E => ⟨p, rfl, by omega, k⟩) fun S H1 hS e1 h1 => ?_
    refine q_asgN (K := K) (cs := []) (en_el (xs := []) (el_lst ea_nil (Nat.zero_le _))) fun o0 xs0 H2 _ e2 h2 i2 => ?_
    refine q_forL (K := K) (a := S) (xs := onesV p) (ev_var rfl) (sq_of (e2 _ _ h1))
      (fun i σ H3 => (∃ o xs y3, σ = [some (.str (txt p)), some (.ref S), some (.ref o), y3, none] ∧ H3 o = some (.lst xs) ∧ IsAll K H3 xs ((apL p ((ones p).take i)).map cI)) ∧ Ex H1 H3)
      (fun H3 e3 => ⟨⟨o0, xs0, _, rfl, e3 _ _ h2, i2.up e3⟩, e2.trans e3⟩) (fun i σ3 H3 _ pr => sq_of (pr.2 _ _ h1)) (fun i x σ3 H3 hx pr => ?_) (fun σ3 H3 pr => ?_)
    · obtain ⟨⟨o, xs, y3, rfl, ho, io⟩, e3⟩ := pr
      unfold onesV at hx
      obtain ⟨a, ha, ham, rfl⟩ := at_map hx
      show tAsg _ _ _ _ _
      have h0 := hol2 i
      have en := en_lcTL (K := K) (as := ones p) (c := fun (i : Nat) => cI ((i : Nat) : Int)) (t := tYes) (te := tOp (rI (fun _ j => 0 < j) fun i j => .int (i % j)) (tOp (rI0 fun i j => .int (i - j)) (tVar 4) (tVar 3)) (tCB rLenStr (tCons (tVar 0) tNil))) (tl := tVar 1) (a := S) (xs := onesV p) (j := 4) (vs := [4]) (σ := [some (.str (txt p)), some (.ref S), some (.ref o), some (.int (a : Nat)), none]) (H := H3) (fun _ => true) (fun (z : Nat) => cI ((((z : Nat) : Int) - (a : Nat)) % (p.length : Nat))) (ev_var rfl) (sq_of (e3 _ _ h1)) (ones_all p) (by omega) (fun _ => rfl) (fun i hi x H3 e3 ix => et_yes) (fun i hi x H3 e3 ix _ => by
          have hx : x = .int (i : Nat) := ix
          subst hx
          exact ec_ev (ev_op (ev_op (ev_var rfl) (ev_var rfl) rv_I0) (ev_lenS (p := p) (ev_var rfl) (by omega)) (rv_I (by show (0 : Int) < (p.length : Nat); omega))))
      rw [List.filter_eq_self.mpr (fun _ _ => rfl)] at en
      refine s_asgN (K := K) (en_catV (K := K) (ev_var rfl) ho io en (by rw [List.length_map, List.length_map]; omega)) fun o2 xs2 H4 _ e4 h4 i4 => ⟨⟨o2, xs2, _, rfl, h4, ?_⟩, e3.trans e4⟩
      rw [apL_succ ha, List.map_append, List.map_map]
      exact i4
    · obtain ⟨⟨o, xs, y3, rfl, ho, io⟩, e3⟩ := pr
      have et : (ones p).take (onesV p).length = ones p := by rw [hoe, List.take_length]
      have hl := hol2 (onesV p).length
      rw [et] at io hl
      have hxs : xs = (apL p (ones p)).map V.int := by
        have : (apL p (ones p)).map cI = ((apL p (ones p)).map V.int).map Cel.v := by rw [List.map_map]; rfl
        rw [this] at io
        exact pr_vals io
      subst hxs
      have hb : ∀ z ∈ apL p (ones p), 0 ≤ z ∧ z < 60 := fun z hz => by
        unfold apL at hz
        obtain ⟨a, _, h⟩ := List.mem_flatMap.mp hz
        obtain ⟨q, _, rfl⟩ := List.mem_map.mp h
        have h1 : 0 ≤ (((q : Nat) : Int) - (a : Nat)) % (p.length : Nat) := Int.emod_nonneg _ (by omega)
        have h2 : (((q : Nat) : Int) - (a : Nat)) % (p.length : Nat) < (p.length : Nat) := Int.emod_lt_of_pos _ (by omega)
        omega
      have el := el_sortSetV (K := K) (w := w) (ta := tVar 2) (σ := [some (.str (txt p)), some (.ref S), some (.ref o), y3, none]) (H := H3) (a := o) (ns := apL p (ones p)) (ms := (apartM p).map fun d => ((d : Nat) : Int)) (ev_var rfl) (sq_of ho) (by omega) hb (apart_rise p) (fun z => apL_mem)
      rw [List.map_map] at el
      exact s_retL el fun r H4 hr e4 h4 => k r H4 (fresh_back (e1.trans e3) hr) ((e1.trans e3).trans e4) h4
/-! ### _law_lacks -/
abbrev s_law_lacks : Stmt := topS 23
theorem sc_law_lacks : FnScope ["_law_pattern", "_law_by"] ["_law_pattern"] (defScope s_law_lacks) := ⟨rfl, rfl, rfl, by decide +kernel, rfl, by decide +kernel, by decide +kernel⟩
def spLacks : Sp := fun vs H Q _ => ∃ p : List Bool, vs = [.str (txt p)] ∧ (0 < p.length ∧ p.length ≤ 12) ∧ RetL ((lacksM p).map fun d => V.int (d : Nat)) H Q
theorem ok_law_lacks (D : Def1 K mg "_law_lacks" s_law_lacks) (B : Bl mg) (c_law_apart : Cal P w K mg base 2 "_law_apart" ["_law_pattern"] spApart) : Cal P w K mg base 3 "_law_lacks" ["_law_pattern"] spLacks := by
  refine D.cal sc_law_lacks (fun _ _ _ _ _ _ us hl => match us, hl with | [_], _ => rfl) (fun vs H Q E h => ?_) (fun f cdv A outer s H vs Q E hr h => ?_)
  · obtain ⟨p, rfl, _⟩ := h
    rfl
  · obtain ⟨p, rfl, ⟨hp, hp2⟩, k⟩ := h
    refine ⟨_, (pss_one (ps_ret (pe_lc (own := [("_law_by", 1)]) (g := gName 1) rfl sc_law_lacks.nd (pi_range1 (by rfl) B.range (pa_cons (pe_callB call_len_str (by rfl) B.len PySem.boot_len (pa_cons (pv 0) pa_nil)) pa_nil)) (blkOk_by (N := ["_law_pattern", "_law_by"]) (sc := defScope s_law_lacks) (by decide +kernel)) (fun _ _ _ _ _ => (pg_name (i := 1) sc_law_lacks.nd rfl (Or.inl rfl))) (fun _ _ _ _ _ => (pts_one (pt_cmpR (r := rIn K true) op_notIn_seq (pv 1) (pe_callC c_law_apart hr (by decide) (pa_cons (pv 0) pa_nil)) (by rfl)))) (fun _ _ _ _ _ => (pv 1))))), ?_⟩
    refine s_retL (el_lcR1 (n := ((p.length : Nat) : Int)) (fun d => !hasD p d) (fun i => .int (i : Nat)) (ea_cons (ev_lenS (ev_var rfl) (by omega)) ea_nil) (by omega) (fun _ => rfl) (fun d H1 e1 hd => ?_) (fun i H1 e1 hi _ => ev_var rfl)) fun a H1 ha e1 h1 => k a H1 ha e1 h1
    refine et_is (et_test (ev_opL (xs := (apartM p).map fun d => V.int (d : Nat)) (ev_var rfl) (el_call (ea_cons (ev_var rfl) ea_nil) fun H1 e Q k E => ⟨p, rfl, ⟨hp, hp2⟩, k⟩) fun q H2 h2 e2 => rv_niL (K := K) (sq_of h2) rfl (by rw [List.all_map, List.all_eq_true]; intro _ _; rfl))) ?_
    congr 1
    have hd' : d < p.length := by omega
    unfold inV
    rw [List.any_map]
    cases h : hasD p d with
    | true =>
      rw [List.any_eq_true]
      exact ⟨d, List.mem_filter.mpr ⟨List.mem_range.mpr hd', h⟩, by show (((d : Nat) : Int) == (d : Nat)) = true; exact beq_self_eq_true _⟩
    | false =>
      rw [List.any_eq_false]
      intro z hz hh
      have hh : (((z : Nat) : Int) == (d : Nat)) = true := hh
      have : z = d := by
        have := eq_of_beq hh
        omega
      subst this
      rw [(List.mem_filter.mp hz).2] at h
      cases h
end
end Bm
namespace Bm
open PySem PySem.Spec PyProof.Rows L2 Evl
section
variable {P : Program} {w : World} {K : PySem.W.Frag} {mg : PySem.Str → Option Value} {base : Heap}
/-! ### _law_shows -/
abbrev s_law_shows : Stmt := topS 24
theorem sc_law_shows : FnScope ["_law_beats", "_law_many", "_law_rows", "_law_due", "_law_count", "_law_pattern", "_law_row"] ["_law_beats", "_law_many", "_law_rows"] (defScope s_law_shows) := ⟨rfl, rfl, rfl, by decide +kernel, rfl, by decide +kernel, by decide +kernel⟩
def spLShows (K : PySem.W.Frag) : Sp := fun vs H Q _ => ∃ (n m : Nat) (a : Addr) (xs : List V) (rs : List SI), vs = [.int (n : Nat), .int (m : Nat), .ref a] ∧ (1 ≤ n ∧ n ≤ 12) ∧ (1 ≤ m ∧ m ≤ n) ∧ SqL K H a xs ∧ IsAll K H xs (rs.map cSI) ∧ rs.length ≤ 10000 ∧ (∀ r ∈ rs, PyData.strOk r.1 = true) ∧ RetV (.bl (showsM n m rs)) H Q
def goodT (n m : Nat) (r : SI) : Bool := (begM n m).any fun p => decide (r.1 = txt p) && goodBy p r.2
theorem goodT_is {n m : Nat} {p : List Bool} {b : Int} (hp : p ∈ begM n m) : goodT n m (txt p, b) = goodBy p b := by
  unfold goodT
  cases hg : goodBy p b with
  | true => exact List.any_eq_true.mpr ⟨p, hp, by rw [hg, Bool.and_true]; exact decide_eq_true rfl⟩
  | false =>
    rw [List.any_eq_false]
    intro q _ h
    rw [Bool.and_eq_true] at h
    have : p = q := txt_inj (of_decide_eq_true h.1)
    subst this
    have h2 : goodBy p b = true := h.2
    rw [hg] at h2
    cases h2
theorem shows_good {n m : Nat} {rs : List SI} (hm : m ≠ 0) (hf : rs.map Prod.fst = (begM n m).map txt) : showsM n m rs = rs.all (goodT n m) := by
  unfold showsM
  rw [if_neg hm, decide_eq_true hf, Bool.true_and]
  have key : ∀ (ps : List (List Bool)) (rs : List SI), (∀ p ∈ ps, p ∈ begM n m) → rs.map Prod.fst = ps.map txt → ((ps.zip (rs.map Prod.snd)).all fun x => goodBy x.1 x.2) = rs.all (goodT n m) := by
    intro ps
    induction ps with
    | nil =>
      intro rs _ h
      cases rs with
      | nil => rfl
      | cons _ _ => cases h
    | cons p ps ih =>
      intro rs hp h
      cases rs with
      | nil => cases h
      | cons r rs =>
        rw [List.map_cons, List.map_cons] at h
        obtain ⟨h1, h2⟩ := List.cons.inj h
        rw [List.map_cons, List.zip_cons_cons, List.all_cons, List.all_cons, ih rs (fun q hq => hp q (List.mem_cons_of_mem _ hq)) h2]
        congr 1
        obtain ⟨t, b⟩ := r
        have h1 : t = txt p := h1
        subst h1
        exact (goodT_is (hp p List.mem_cons_self)).symm
  exact key (begM n m) rs (fun _ h => h) hf
theorem ok_law_shows (D : Def1 K mg "_law_shows" s_law_shows) (B : Bl mg) (c_law_all : Cal P w K mg base 1 "_law_all" ["_law_beats"] (spLAll K)) (c_law_lacks : Cal P w K mg base 3 "_law_lacks" ["_law_pattern"] spLacks) :
    Cal P w K mg base 4 "_law_shows" ["_law_beats", "_law_many", "_law_rows"] (spLShows K) := by
  refine D.cal sc_law_shows (fun _ _ _ _ _ _ us hl => match us, hl with | [_, _, _], _ => rfl) (fun vs H Q E h => ?_) (fun f cdv A outer s H vs Q E hr h => ?_)
  · obtain ⟨n, m, a, xs, rs, rfl, _⟩ := h
    rfl
  · obtain ⟨n, m, a, xs, rs, rfl, ⟨hn1, hn2⟩, ⟨hm1, hm⟩, hs, hi, hrl, hok, k⟩ := h
    refine ⟨_, (pss_cons (ps_setLc (i := 3) (own := [("_law_count", 4), ("_law_pattern", 5)]) (g := gTup K 2 (gCons (gName 4) (gCons (gName 5) gNil))) rfl sc_law_shows.nd rfl rfl (sw_true rfl rfl rfl (by decide +kernel)) (pi_list (pe_callC c_law_all hr (by decide) (pa_cons (pv 0) pa_nil))) (blkOk_by (N := ["_law_beats", "_law_many", "_law_rows", "_law_due", "_law_count", "_law_pattern", "_law_row"]) (sc := defScope s_law_shows) (by decide +kernel)) (fun _ _ _ _ _ => (pg_tupK K rfl rfl (pgs_cons (pg_name (i := 4) sc_law_shows.nd rfl (Or.inl rfl)) (pgs_cons (pg_name (i := 5) sc_law_shows.nd rfl (Or.inl rfl)) pgs_nil)))) (fun _ _ _ _ _ => (pts_one (PW.pt (pw_and (pt_cmpR op_eq (pv 4) (pv 1) (nomark _)) (pw_and1 (pt_cmpR op_eq (pe_ix ix_str (pv 5) pe_int (fun _ _ => rfl)) pe_str (nomark _))))))) (fun _ _ _ _ _ => (pv 5)))
 (pss_cons (ps_if (pt_cmpR (op_neD hr.units) (pe_lc (own := [("_law_row", 6)]) (g := gName 6) rfl sc_law_shows.nd (pi_list (pv 2)) (blkOk_by (N := ["_law_beats", "_law_many", "_law_rows", "_law_due", "_law_count", "_law_pattern", "_law_row"]) (sc := defScope s_law_shows) (by decide +kernel)) (fun _ _ _ _ _ => (pg_name (i := 6) sc_law_shows.nd rfl (Or.inl rfl))) (fun _ _ _ _ _ => pts_nil) (fun _ _ _ _ _ => (pe_ix (r := rIxT K) ix_tup (pv 6) pe_int (fun _ _ => rfl)))) (pv 3) (nomark _)) (pss_one (ps_ret pe_bl))
 pss_nil)
 (pss_one (ps_ret (pe_cmpR (op_eqD hr.units) (pe_lc (own := [("_law_row", 6)]) (g := gName 6) rfl sc_law_shows.nd (pi_list (pv 2)) (blkOk_by (N := ["_law_beats", "_law_many", "_law_rows", "_law_due", "_law_count", "_law_pattern", "_law_row"]) (sc := defScope s_law_shows) (by decide +kernel)) (fun _ _ _ _ _ => (pg_name (i := 6) sc_law_shows.nd rfl (Or.inl rfl))) (fun _ _ _ _ _ => (pts_one (pt_cmpR (r := rIn K true) op_notIn_seq (pe_ix (r := rIxT K) ix_tup (pv 6) pe_int (fun _ _ => rfl)) (pe_callC c_law_lacks hr (by decide) (pa_cons (pe_ix (r := rIxT K) ix_tup (pv 6) pe_int (fun _ _ => rfl)) pa_nil)) (by rfl)))) (fun _ _ _ _ _ => (pv 6))) (pe_lst pa_nil) (nomark _)))))), ?_⟩
    have hal := allP_len hn2
    have hbl := begM_len (n := n) (m := m) hn2
    have hm0 : m ≠ 0 := by omega
    have end0 := en_lcP2 (K := K) (as := allP n) (x1 := fun x => .int (x.1 : Nat)) (x2 := fun x => .str (txt x.2)) (t := tAnd (tTest (tOp rEq (tVar 4) (tVar 1))) (tTest (tOp rEq (tOp rIxS (tVar 5) (tC (.int 0))) (tC (.str "1"))))) (te := tVar 5) (tl := tCall (spLAll K) [] E0 (tCons (tVar 0) tNil)) (i := 4) (j := 5) (vs := [4, 5]) (σ := [some (.int (n : Nat)), some (.int (m : Nat)), some (.ref a), none, none, none, none]) (H := H) (fun x => decide (x.1 = m) && x.2.getD 0 false) (fun x => cT x.2) (en_call (ea_cons (ev_var rfl) ea_nil) fun H1 e Q k => ⟨n, rfl, hn2, k⟩) (by omega) (fun _ _ => rfl) (fun x hx H1 e1 => by
        obtain ⟨xl, xc, x1⟩ := mem_allP.mp hx
        refine et_and (et_is (et_test (ev_op (ev_var rfl) (ev_var rfl) (rv_eq rfl))) ?_) (fun _ => et_test (ev_is1 (ev_ixP (i := 0) (ev_var rfl) ev_c (by omega) (by omega)) ev_c))
        exact decide_eq_decide.mpr ⟨fun h => by have := V.int.inj h; omega, fun h => by rw [h]⟩) (fun x hx H1 e1 _ => ec_ev (ev_var rfl))
    have ed : ((allP n).filter fun x => decide (x.1 = m) && x.2.getD 0 false).map (fun x => cT x.2) = ((begM n m).map txt).map cS := by
      rw [← beg_all hm1 hm, List.map_map, List.map_map]
      rfl
    rw [ed] at end0
    refine q_asgN (K := K) end0 fun DL dx H1 _ e1 h1 i1 => ?_
    have hdx : dx = ((begM n m).map txt).map V.str := by
      have : ((begM n m).map txt).map cS = (((begM n m).map txt).map V.str).map Cel.v := by rw [List.map_map, List.map_map, List.map_map]; rfl
      rw [this] at i1
      exact pr_vals i1
    have ens : EvN K (tLc (iList K (tVar 2)) (gName 6) tYes (tOp (rIxT K) (tVar 6) (tC (.int 0))) [6]) [some (.int (n : Nat)), some (.int (m : Nat)), some (.ref a), some (.ref DL), none, none, none] H1 ((rs.map Prod.fst).map cS) := by
      have en := en_lcTL (K := K) (as := rs) (c := cSI) (t := tYes) (te := tOp (rIxT K) (tVar 6) (tC (.int 0))) (tl := tVar 2) (a := a) (xs := xs) (j := 6) (vs := [6]) (σ := [some (.int (n : Nat)), some (.int (m : Nat)), some (.ref a), some (.ref DL), none, none, none]) (H := H1) (fun _ => true) (fun r => cS r.1) (ev_var rfl) (ex_l e1 hs) (hi.up e1) (by omega) (fun _ => rfl) (fun r hr x H4 e4 ix => et_yes) (fun r hr x H4 e4 ix _ => ec_ev (ev_ixC (K := K) (i := 0) (ec_var rfl ix) ev_c rfl))
      rw [List.filter_eq_self.mpr (fun _ _ => rfl)] at en
      rw [List.map_map]
      exact en
    have ok1 : ((rs.map Prod.fst).map cS).all okC = true := strs_ok fun z hz => by
      obtain ⟨r, hr, rfl⟩ := List.mem_map.mp hz
      exact hok r hr
    have ok2 : (((begM n m).map txt).map cS).all okC = true := strs_ok fun z hz => by
      obtain ⟨q, _, rfl⟩ := List.mem_map.mp hz
      exact txt_ok q
    have hNe : Ev (tOp (rNeD K) (tLc (iList K (tVar 2)) (gName 6) tYes (tOp (rIxT K) (tVar 6) (tC (.int 0))) [6]) (tVar 3)) [some (.int (n : Nat)), some (.int (m : Nat)), some (.ref a), some (.ref DL), none, none, none] H1 (.bl (!decide (rs.map Prod.fst = (begM n m).map txt))) := fun H2 e2 Q q =>
      ens H2 e2 _ fun p ys H3 hp e3 h3 i3 => ⟨.ref DL, rfl, _, _, .lst (sq_of h3) (dp_cs i3 ok1), .lst (sq_of (e3 _ _ (e2 _ _ h1))) (dp_cs (i1.up (e2.trans e3)) ok2), shaped_cs ok1, shaped_cs ok2, by rw [eqv_strs]; exact q H3 e3⟩
    refine q_when (b := !decide (rs.map Prod.fst = (begM n m).map txt)) (et_test hNe) (fun hb H4 e4 => ?_) (fun hb H4 e4 => ?_)
    · refine s_ret (v := .bl false) ev_c fun H5 e5 => ?_
      have hf : decide (rs.map Prod.fst = (begM n m).map txt) = false := by simpa using hb
      have e0 : showsM n m rs = false := by
        unfold showsM
        rw [if_neg hm0, hf]
        rfl
      have := k H5 ((e1.trans e4).trans e5)
      rw [e0] at this
      exact this
    · have hf : rs.map Prod.fst = (begM n m).map txt := by simpa using hb
      have e14 := e1.trans e4
      -- the rows as patterns
      have hpat : ∀ r ∈ rs, ∃ p, p ∈ begM n m ∧ r.1 = txt p := fun r hr => by
        have : r.1 ∈ rs.map Prod.fst := List.mem_map.mpr ⟨r, hr, rfl⟩
        rw [hf] at this
        obtain ⟨p, hp, e⟩ := List.mem_map.mp this
        exact ⟨p, hp, e.symm⟩
      have en := en_lcTL (K := K) (as := rs) (c := cSI) (t := tTest (tOp (rIn K true) (tOp (rIxT K) (tVar 6) (tC (.int 1))) (tCall spLacks [] E0 (tCons (tOp (rIxT K) (tVar 6) (tC (.int 0))) tNil)))) (te := tVar 6) (tl := tVar 2) (a := a) (xs := xs) (j := 6) (vs := [6]) (σ := [some (.int (n : Nat)), some (.int (m : Nat)), some (.ref a), some (.ref DL), none, none, none]) (H := H4) (fun r => !goodT n m r) cSI (ev_var rfl) (ex_l e14 hs) (hi.up e14) (by omega) (fun _ => rfl) (fun r hr x H5 e5 ix => by
          obtain ⟨p, hp, hrp⟩ := hpat r hr
          obtain ⟨pl, pc, _⟩ := mem_begM.mp hp
          obtain ⟨t, b⟩ := r
          have hrp : t = txt p := hrp
          subst hrp
          rw [goodT_is hp]
          refine et_is (et_test (ev_opL (xs := (lacksM p).map fun d => V.int (d : Nat)) (ev_ixC (K := K) (i := 1) (ec_var rfl ix) ev_c rfl) (el_call (ea_cons (ev_ixC (K := K) (i := 0) (ec_var rfl ix) ev_c rfl) ea_nil) fun H1 e Q k E => ⟨p, rfl, ⟨by omega, by omega⟩, k⟩) fun q H2 h2 e2 => rv_niL (K := K) (sq_of h2) rfl (by rw [List.all_map, List.all_eq_true]; intro _ _; rfl))) ?_
          congr 1
          unfold inV
          rw [List.any_map]
          cases hg : goodBy p b with
          | true =>
            obtain ⟨d, hd, rfl⟩ := List.mem_map.mp (lacks_in.mpr hg)
            rw [List.any_eq_true]
            exact ⟨d, hd, by show (((d : Nat) : Int) == (d : Nat)) = true; exact beq_self_eq_true _⟩
          | false =>
            rw [List.any_eq_false]
            intro d hd hh
            have hh : (((d : Nat) : Int) == b) = true := hh
            have : goodBy p b = true := lacks_in.mp (List.mem_map.mpr ⟨d, hd, eq_of_beq hh⟩)
            rw [hg] at this
            cases this) (fun r hr x H5 e5 ix _ => ec_var rfl ix)
      refine s_ret (v := .bl (showsM n m rs)) (ev_is (ev_nilN (K := K) en (by
        rw [List.all_map, List.all_eq_true]
        intro r hr
        exact cSI_ok (hok r (List.mem_filter.mp hr).1))) ?_) fun H5 e5 => k H5 (e14.trans e5)
      rw [shows_good hm0 hf, List.isEmpty_map]
      congr 1
      cases hA : rs.all (goodT n m) with
      | true =>
        have : rs.filter (fun r => !goodT n m r) = [] := by
          rw [List.filter_eq_nil_iff]
          intro r hr
          rw [List.all_eq_true.mp hA r hr]
          decide
        rw [this]
        rfl
      | false =>
        rw [List.all_eq_false] at hA
        obtain ⟨r, hr, hg⟩ := hA
        have : r ∈ rs.filter (fun r => !goodT n m r) := List.mem_filter.mpr ⟨hr, by simpa using hg⟩
        cases hl : rs.filter (fun r => !goodT n m r) with
        | nil => rw [hl] at this; cases this
        | cons _ _ => rfl
end
end Bm
namespace Bm
open PySem PySem.Spec PyProof.Rows L2 Evl
section
variable {P : Program} {w : World} {K : PySem.W.Frag} {mg : PySem.Str → Option Value} {base : Heap}
/-! ### _law_spoilt -/
abbrev s_law_spoilt : Stmt := topS 25
theorem sc_law_spoilt : FnScope ["_law_d", "_law_rows", "_law_beats", "_law_at", "_law_pattern", "_law_by", "_law_kind", "_law_number", "_law_odd"] ["_law_d", "_law_rows", "_law_beats"] (defScope s_law_spoilt) := ⟨rfl, rfl, rfl, by decide +kernel, rfl, by decide +kernel, by decide +kernel⟩
/-! a list of cells, cut -/
theorem pr_take {α β : Type} {F : α → β → Prop} : ∀ {xs : List α} {ys : List β} (k : Nat), Paired F xs ys → Paired F (xs.take k) (ys.take k)
  | _, _, 0, _ => .nil
  | _, _, _ + 1, .nil => .nil
  | _, _, k + 1, .cons r t => .cons r (pr_take k t)
theorem pr_drop {α β : Type} {F : α → β → Prop} : ∀ {xs : List α} {ys : List β} (k : Nat), Paired F xs ys → Paired F (xs.drop k) (ys.drop k)
  | _, _, 0, h => h
  | _, _, _ + 1, .nil => .nil
  | _, _, k + 1, .cons _ t => pr_drop k t
theorem cutV_take (xs : List V) (k : Nat) : cutV xs none (some (k : Nat)) = xs.take k := by
  unfold cutV
  rw [HT.sIx_none, show HT.sIx xs.length xs.length (some ((k : Nat) : Int)) = min k xs.length from HT.sIx_nat _ _ _, List.drop_zero, Nat.sub_zero]
  by_cases h : k ≤ xs.length
  · rw [Nat.min_eq_left h]
  · rw [Nat.min_eq_right (by omega), List.take_length, List.take_of_length_le (by omega)]
theorem cutV_drop (xs : List V) (k : Nat) : cutV xs (some (k : Nat)) none = xs.drop k := by
  unfold cutV
  rw [HT.sIx_none, show HT.sIx xs.length 0 (some ((k : Nat) : Int)) = min k xs.length from HT.sIx_nat _ _ _, List.take_of_length_le (by rw [List.length_drop]; exact Nat.le_refl _)]
  by_cases h : k ≤ xs.length
  · rw [Nat.min_eq_left h]
  · rw [Nat.min_eq_right (by omega), List.drop_length, List.drop_eq_nil_of_le (by omega)]
theorem en_takeL {σ : L2.St} {H : Hp} {te ti : TE} {a : Addr} {xs : List V} {cs : List Cel} {k : Nat} (h : Ev te σ H (.ref a)) (hs : SqL K H a xs) (hc : IsAll K H xs cs) (hi : Ev ti σ H (.int (k : Nat))) : EvN K (tSl (rSlL K) te tNoPart (tPart ti)) σ H (cs.take k) := fun H1 e Q q =>
  el_sl (K := K) h eo_none (eo_some hi) hs H1 e _ fun p H2 hp e2 h2 => q p _ H2 hp e2 h2 (by rw [cutV_take]; exact pr_take k (hc.up (e.trans e2)))
theorem en_dropL {σ : L2.St} {H : Hp} {te ti : TE} {a : Addr} {xs : List V} {cs : List Cel} {k : Nat} (h : Ev te σ H (.ref a)) (hs : SqL K H a xs) (hc : IsAll K H xs cs) (hi : Ev ti σ H (.int (k : Nat))) : EvN K (tSl (rSlL K) te (tPart ti) tNoPart) σ H (cs.drop k) := fun H1 e Q q =>
  el_sl (K := K) h (eo_some hi) eo_none hs H1 e _ fun p H2 hp e2 h2 => q p _ H2 hp e2 h2 (by rw [cutV_drop]; exact pr_drop k (hc.up (e.trans e2)))
theorem en_lst1 {σ : L2.St} {H : Hp} {te : TE} {c : Cel} (h : EvC K te σ H c) : EvN K (tLst (tCons te tNil)) σ H [c] := fun H1 e Q q =>
  h H1 e _ fun v H2 e2 i2 => ⟨szl (by show 1 ≤ 1000; decide), fun p hp => q p [v] _ (fresh_back e2 hp) (e2.trans (Ex.new hp)) upd_same (.cons (i2.up (Ex.new hp)) .nil)⟩
/-- the texts of rows: good ones, no longer than so much -/
def RowsOk (L : Nat) (rs : List SI) : Prop := ∀ r ∈ rs, PyData.strOk r.1 = true ∧ r.1.length ≤ L
def spSpoilt (K : PySem.W.Frag) : Sp := fun vs H Q _ => ∃ (D : Addr) (G : Hp) (a : Addr) (xs : List V) (rs : List SI) (n L : Nat), vs = [.ref D, .ref a, .int (n : Nat)] ∧ DD D G H ∧ SqL K G a xs ∧ IsAll K G xs (rs.map cSI) ∧ (0 < rs.length ∧ rs.length ≤ 9000) ∧ (1 ≤ n ∧ n ≤ 12) ∧ RowsOk L rs ∧ L ≤ 900 ∧
  ∀ (p : Addr) (ys : List V) (rs' : List SI) (H2 : Hp), G p = none → p ≠ D → DD D G H2 → H2 p = some (.lst ys) → IsAll K H2 ys (rs'.map cSI) → rs'.length ≤ rs.length + 1 → RowsOk (L + 1) rs' → Q (.ref p) H2
theorem strOk_sub {z z' : PySem.Str} (h : PyData.strOk z = true) (hs : ∀ c ∈ z'.cps.toList, c ∈ z.cps.toList) : PyData.strOk z' = true := by
  have h : z.cps.all (· < 0x110000) = true := h
  show z'.cps.all (· < 0x110000) = true
  rw [← Array.all_toList, List.all_eq_true] at h ⊢
  exact fun c hc => h c (hs c hc)
def okS (L : Nat) (z : PySem.Str) : Prop := PyData.strOk z = true ∧ z.length ≤ L
theorem okS_mono {L M : Nat} {z : PySem.Str} (h : okS L z) (e : L ≤ M) : okS M z := ⟨h.1, Nat.le_trans h.2 e⟩
theorem okS_cut {L : Nat} {z : PySem.Str} {lo hi : Option Int} (h : okS L z) : okS L (cutS z lo hi) := by
  have e : (cutS z lo hi).cps.toList = (z.cps.toList.drop (HT.sIx z.length 0 lo)).take (HT.sIx z.length z.length hi - HT.sIx z.length 0 lo) := rfl
  refine ⟨strOk_sub h.1 fun c hc => ?_, ?_⟩
  · rw [e] at hc
    exact List.mem_of_mem_drop (List.mem_of_mem_take hc)
  · have h2 := h.2
    have : (cutS z lo hi).length = (cutS z lo hi).cps.toList.length := (Array.length_toList).symm
    rw [this, e, List.length_take, List.length_drop]
    have : z.length = z.cps.toList.length := (Array.length_toList).symm
    omega
theorem okS_add {L M : Nat} {z y : PySem.Str} (h : okS L z) (h' : okS M y) : okS (L + M) (z ++ y) := by
  have e : (z ++ y).cps.toList = z.cps.toList ++ y.cps.toList := Array.toList_append
  refine ⟨?_, ?_⟩
  · have h1 : z.cps.all (· < 0x110000) = true := h.1
    have h2 : y.cps.all (· < 0x110000) = true := h'.1
    show (z ++ y).cps.all (· < 0x110000) = true
    rw [← Array.all_toList, List.all_eq_true] at h1 h2 ⊢
    intro c hc
    rw [e] at hc
    rcases List.mem_append.mp hc with hc | hc
    · exact h1 c hc
    · exact h2 c hc
  · have := h.2
    have := h'.2
    have a0 : (z ++ y).length = (z ++ y).cps.toList.length := (Array.length_toList).symm
    have a1 : z.length = z.cps.toList.length := (Array.length_toList).symm
    have a2 : y.length = y.cps.toList.length := (Array.length_toList).symm
    rw [a0, e, List.length_append]
    omega
theorem ev_addS' {σ : L2.St} {H : Hp} {ta tb : TE} {x y : PySem.Str} (ha : Ev ta σ H (.str x)) (hb : Ev tb σ H (.str y)) (hz : x.length + y.length ≤ 1000) : Ev (tOp rAddS ta tb) σ H (.str (x ++ y)) :=
  ev_op ha hb fun H1 _ _ q' => ⟨x, y, rfl, rfl, szl hz, q' H1 (Ex.refl H1)⟩
theorem ev_cut' {σ : L2.St} {H : Hp} {ta : TE} {tl th : TO} {x : PySem.Str} {lo hi : Option Int} (ha : Ev ta σ H (.str x)) (hl : EvO tl σ H lo) (hh : EvO th σ H hi) (hz : x.length ≤ 1000) : Ev (tSl rSlS ta tl th) σ H (.str (cutS x lo hi)) := fun H1 e Q q =>
  ha H1 e _ fun H2 e2 => hl H2 (e.trans e2) _ fun H3 e3 => hh H3 ((e.trans e2).trans e3) _ fun H4 e4 => ⟨x, rfl, szl hz, q H4 ((e2.trans e3).trans e4)⟩
theorem r_cons {σ : L2.St} {H : Hp} {te : TE} {tr : TA} {x : V} {Q : List V → Hp → Prop} (h : Ev te σ H x) (k : ∀ H1, Ex H H1 → tr σ H1 fun xs H2 => Q (x :: xs) H2) : tCons te tr σ H Q := h H (Ex.refl H) _ k
theorem r_consR {σ : L2.St} {H : Hp} {te : TE} {tr : TA} {Q : List V → Hp → Prop} (h : te σ H fun x H1 => tr σ H1 fun xs H2 => Q (x :: xs) H2) : tCons te tr σ H Q := h
theorem r_lst {σ : L2.St} {H : Hp} {ta : TA} {Q : VK} (h : ta σ H fun xs H1 => xs.length ≤ sizeLine ∧ ∀ p, H1 p = none → Q (.ref p) (upd H1 p (.lst xs))) : tLst ta σ H Q := h
/-- one of a new list, by the dice -/
theorem r_pick {σ : L2.St} {tb : TA} {D : Addr} {G H : Hp} {m : Nat} {vs : List V} {Q : VK} (d : DD D G H) (hl : vs.length = m) (hm : 0 < m ∧ m ≤ 1000) (h : ∀ H1, Ex H H1 → EvA tb σ H1 [.ref D, .int (m : Nat)])
    (k : ∀ (v : V) (H2 : Hp), v ∈ vs → DD D G H2 → Q v H2) : vs.length ≤ sizeLine ∧ ∀ p, H p = none → (fun x H1 => tCall spOff [] E0 tb σ H1 fun y H2 => rIxL K x y H2 Q) (.ref p) (upd H p (.lst vs)) :=
  ⟨szl (by omega), fun p hp => r_off (m := m) (d.up (Ex.new hp)) (by omega) (h _ (Ex.new hp)) fun r H4 hr e4 d4 => by
    obtain ⟨ds, _, hds⟩ := d.at_
    have hpl : p ≠ D := (ne_of_none hds hp).symm
    have hr' : r < vs.length := by omega
    exact ⟨p, vs, (r : Nat), vs[r], rfl, rfl, sq_of (e4 _ _ hpl upd_same), atI_nat (List.getElem?_eq_getElem hr'), k _ H4 (List.getElem_mem hr') d4⟩⟩
theorem rows_app {L : Nat} {a b : List SI} (h1 : RowsOk L a) (h2 : RowsOk L b) : RowsOk L (a ++ b) := fun r hr => (List.mem_append.mp hr).elim (h1 r) (h2 r)
theorem rows_sub {L M : Nat} {a b : List SI} (h : RowsOk L a) (hs : ∀ r ∈ b, r ∈ a) (e : L ≤ M) : RowsOk M b := fun r hr => okS_mono (h r (hs r hr)) e
theorem ok_law_spoilt (D : Def1 K mg "_law_spoilt" s_law_spoilt) (B : Bl mg) (c_law_off : Cal P w K mg base 1 "_law_off" ["_law_d", "_law_most"] spOff) :
    Cal P w K mg base 2 "_law_spoilt" ["_law_d", "_law_rows", "_law_beats"] (spSpoilt K) := by
  refine D.cal sc_law_spoilt (fun _ _ _ _ _ _ us hl => match us, hl with | [_, _, _], _ => rfl) (fun vs H Q E h => ?_) (fun f cdv A outer s H vs Q E hr h => ?_)
  · obtain ⟨D, G, a, xs, rs, n, L, rfl, _⟩ := h
    rfl
  · obtain ⟨D, G, a, xs, rs, n, L, rfl, d, hs, hi, ⟨hr0, hr9⟩, hn, hok, hL, k⟩ := h
    refine ⟨_, (pss_cons (ps_set (i := 3) sc_law_spoilt.nd rfl (Or.inl rfl) (pe_callC c_law_off hr (by decide) (pa_cons (pv 0) (pa_cons (pe_callB call_len_seq (by rfl) B.len PySem.boot_len (pa_cons (pv 1) pa_nil)) pa_nil))))
 (pss_cons (ps_asg (pe_ix ix_list (pv 1) (pv 3) (fun _ _ => rfl)) (pg_tup rfl (pgs_cons (pg_name (i := 4) sc_law_spoilt.nd rfl (Or.inl rfl)) (pgs_cons (pg_name (i := 5) sc_law_spoilt.nd rfl (Or.inl rfl)) pgs_nil))))
 (pss_cons (ps_set (i := 6) sc_law_spoilt.nd rfl (Or.inl rfl) (pe_callC c_law_off hr (by decide) (pa_cons (pv 0) (pa_cons pe_int pa_nil))))
 (pss_cons (ps_if (pt_cmpR op_eq (pv 6) pe_int (nomark _)) (pss_one (ps_ret (pe_op op_cat (pe_slice sl_list (pv 1) po_none (po_some (pv 3))) (pe_slice sl_list (pv 1) (po_some (pe_op op_add (pv 3) pe_int)) po_none))))
 pss_nil)
 (pss_cons (ps_if (pt_cmpR op_eq (pv 6) pe_int (nomark _)) (pss_one (ps_ret (pe_op op_cat (pe_op op_cat (pe_slice sl_list (pv 1) po_none (po_some (pv 3))) (pe_lst (pa_cons (pe_ix ix_list (pv 1) (pv 3) (fun _ _ => rfl)) pa_nil))) (pe_slice sl_list (pv 1) (po_some (pv 3)) po_none))))
 pss_nil)
 (pss_cons (ps_if (pt_cmpR op_eq (pv 6) pe_int (nomark _)) (pss_one (ps_ret (pe_op op_cat (pe_slice sl_list (pv 1) (po_some (pv 3)) po_none) (pe_slice sl_list (pv 1) po_none (po_some (pv 3))))))
 pss_nil)
 (pss_cons (ps_if (pt_cmpR op_lt (pv 6) pe_int (nomark _)) (pss_cons (ps_set (i := 7) sc_law_spoilt.nd rfl (Or.inl rfl) (pe_ix ix_list (pe_lst (pa_cons (pe_op op_add (pv 5) pe_int) (pa_cons (pe_op op_sub (pv 5) pe_int) (pa_cons (pe_op op_sub (pv 2) (pv 5)) (pa_cons (pv 2) (pa_cons (pe_un un_neg pe_int) (pa_cons pe_int (pa_cons (pe_callC c_law_off hr (by decide) (pa_cons (pv 0) (pa_cons (pv 2) pa_nil))) (pa_cons (pe_op op_add (pv 5) (pv 2)) pa_nil))))))))) (pe_callC c_law_off hr (by decide) (pa_cons (pv 0) (pa_cons pe_int pa_nil))) (fun _ _ => rfl)))
 (pss_one (ps_ret (pe_op op_cat (pe_op op_cat (pe_slice sl_list (pv 1) po_none (po_some (pv 3))) (pe_lst (pa_cons (pe_tup (pa_cons (pv 4) (pa_cons (pv 7) pa_nil))) pa_nil))) (pe_slice sl_list (pv 1) (po_some (pe_op op_add (pv 3) pe_int)) po_none)))))
 pss_nil)
 (pss_cons (ps_set (i := 8) sc_law_spoilt.nd rfl (Or.inl rfl) (pe_ix ix_list (pe_lst (pa_cons (pe_revS (pv 4)) (pa_cons (pe_op op_add_str (pv 4) pe_str) (pa_cons (pe_slice sl_str (pv 4) po_none (po_some (pe_un un_neg pe_int))) (pa_cons pe_str (pa_cons pe_str (pa_cons (pe_op op_add_str (pe_slice sl_str (pv 4) po_none (po_some (pe_un un_neg pe_int))) pe_str) pa_nil))))))) (pe_callC c_law_off hr (by decide) (pa_cons (pv 0) (pa_cons pe_int pa_nil))) (fun _ _ => rfl)))
 (pss_one (ps_ret (pe_op op_cat (pe_op op_cat (pe_slice sl_list (pv 1) po_none (po_some (pv 3))) (pe_lst (pa_cons (pe_tup (pa_cons (pv 8) (pa_cons (pv 5) pa_nil))) pa_nil))) (pe_slice sl_list (pv 1) (po_some (pe_op op_add (pv 3) pe_int)) po_none)))))))))))), ?_⟩
    have hxl : xs.length = rs.length := by rw [pr_len hi, List.length_map]
    refine r_qasg (r_off (m := xs.length) d (by omega) (ea_cons (ev_var rfl) (ea_cons (ev_len (K := K) (ev_var rfl) (ex_l d.ex hs)) ea_nil)) fun at_ H2 hat _ d2 => ?_)
    have hat' : at_ < rs.length := by omega
    have hrat : rs[at_]? = some rs[at_] := List.getElem?_eq_getElem hat'
    have hrm : rs[at_] ∈ rs := List.getElem_mem hat'
    generalize rs[at_] = r at hrat hrm
    obtain ⟨t, b⟩ := r
    have hci : (rs.map cSI)[at_]? = some (cSI (t, b)) := by rw [List.getElem?_map, hrat]; rfl
    obtain ⟨ht1, ht2⟩ : okS L t := hok _ hrm
    refine (ec_ixL (K := K) (i := at_) (c := cSI (t, b)) (ev_var rfl) (ex_l d2.ex hs) (hi.up d2.ex) (ev_var rfl) hci) H2 (Ex.refl H2) _ fun v H3 e3 i3 => g_cell2 (K := K) i3 ?_
    have d3 := d2.up e3
    refine r_qasg (r_off (m := 6) d3 (by decide) (ea_cons (ev_var rfl) (ea_cons ev_c ea_nil)) fun kd H4 hk6 _ d4 => ?_)
    have fin : ∀ {H5 : Hp} {te : TE} {σ : L2.St} (rs' : List SI) (cs : List Cel), DD D G H5 → EvN K te σ H5 cs → cs = rs'.map cSI → rs'.length ≤ rs.length + 1 → RowsOk (L + 1) rs' → te σ H5 Q := fun {H5 te σ} rs' cs d5 h ec hl ho =>
      h H5 (Ex.refl H5) _ fun p ys H6 hp e6 h6 i6 => k p ys rs' H6 (fresh_back d5.ex hp) (d5.ne hp) (d5.up e6) h6 (by rw [← ec]; exact i6) hl ho
    have len1 : ∀ j, (rs.take j).length ≤ rs.length := fun j => by rw [List.length_take]; omega
    have htk : RowsOk (L + 1) (rs.take at_) := rows_sub hok (fun r hr => List.mem_of_mem_take hr) (by omega)
    have hdr : ∀ j, RowsOk (L + 1) (rs.drop j) := fun j => rows_sub hok (fun r hr => List.mem_of_mem_drop hr) (by omega)
    have enT : ∀ {H5 : Hp} {x6 x7 x8 : Option V}, DD D G H5 → EvN K (tSl (rSlL K) (tVar 1) tNoPart (tPart (tVar 3))) [some (.ref D), some (.ref a), some (.int (n : Nat)), some (.int (at_ : Nat)), some (.str t), some (.int b), x6, x7, x8] H5 ((rs.map cSI).take at_) := fun d5 => en_takeL (ev_var rfl) (ex_l d5.ex hs) (hi.up d5.ex) (ev_var rfl)
    have enD : ∀ {H5 : Hp} {x6 x7 x8 : Option V}, DD D G H5 → EvN K (tSl (rSlL K) (tVar 1) (tPart (tVar 3)) tNoPart) [some (.ref D), some (.ref a), some (.int (n : Nat)), some (.int (at_ : Nat)), some (.str t), some (.int b), x6, x7, x8] H5 ((rs.map cSI).drop at_) := fun d5 => en_dropL (ev_var rfl) (ex_l d5.ex hs) (hi.up d5.ex) (ev_var rfl)
    have enE : ∀ {H5 : Hp} {x6 x7 x8 : Option V}, DD D G H5 → EvN K (tSl (rSlL K) (tVar 1) (tPart (tOp (rI0 fun i j => .int (i + j)) (tVar 3) (tC (.int 1)))) tNoPart) [some (.ref D), some (.ref a), some (.int (n : Nat)), some (.int (at_ : Nat)), some (.str t), some (.int b), x6, x7, x8] H5 ((rs.map cSI).drop (at_ + 1)) := fun d5 => en_dropL (ev_var rfl) (ex_l d5.ex hs) (hi.up d5.ex) (ev_addN (b := 1) (ev_var rfl) ev_c)
    have lc1 : ((rs.map cSI).take at_).length ≤ 9000 := by rw [List.length_take, List.length_map]; omega
    have lc2 : ∀ j, ((rs.map cSI).drop j).length ≤ 9000 := fun j => by rw [List.length_drop, List.length_map]; omega
    -- a row put in another's place
    have put : ∀ {H5 : Hp} {x6 x7 x8 : Option V} {te1 te2 : TE} (t' : PySem.Str) (b' : Int), DD D G H5 → okS (L + 1) t' → Ev te1 [some (.ref D), some (.ref a), some (.int (n : Nat)), some (.int (at_ : Nat)), some (.str t), some (.int b), x6, x7, x8] H5 (.str t') → Ev te2 [some (.ref D), some (.ref a), some (.int (n : Nat)), some (.int (at_ : Nat)), some (.str t), some (.int b), x6, x7, x8] H5 (.int b') →
        tOp rCat (tOp rCat (tSl (rSlL K) (tVar 1) tNoPart (tPart (tVar 3))) (tLst (tCons (tTup (tCons te1 (tCons te2 tNil))) tNil))) (tSl (rSlL K) (tVar 1) (tPart (tOp (rI0 fun i j => .int (i + j)) (tVar 3) (tC (.int 1)))) tNoPart) [some (.ref D), some (.ref a), some (.int (n : Nat)), some (.int (at_ : Nat)), some (.str t), some (.int b), x6, x7, x8] H5 Q := fun {H5 x6 x7 x8 te1 te2} t' b' d5 ho h1 h2 =>
      fin (rs.take at_ ++ [(t', b')] ++ rs.drop (at_ + 1)) _ d5 (en_cat (en_cat (enT d5) (en_lst1 (ec_tup (ea_cons h1 (ea_cons h2 ea_nil)) (by show 2 ≤ 1000; decide))) (by show _ + 1 ≤ _; omega)) (enE d5) (by rw [List.length_append]; have := lc2 (at_ + 1); show _ + 1 + _ ≤ _; omega)) (by rw [List.map_append, List.map_append, List.map_take, List.map_drop]; rfl)
        (by rw [List.length_append, List.length_append, List.length_take, List.length_drop]; show _ + 1 + _ ≤ _; omega) (rows_app (rows_app htk (fun r hr => by
          have : r = (t', b') := by simpa using hr
          rw [this]
          exact ho)) (hdr _))
    refine q_when (b := decide (V.int (kd : Nat) = V.int 0)) (et_test (ev_op (ev_var rfl) ev_c (rv_eq rfl))) (fun hb H5 e5 => ?_) (fun hb H5 e5 => ?_)
    · have d5 := d4.up e5
      exact fin (rs.take at_ ++ rs.drop (at_ + 1)) _ d5 (en_cat (enT d5) (enE d5) (by have := lc2 (at_ + 1); omega)) (by rw [List.map_append, List.map_take, List.map_drop]) (by rw [List.length_append, List.length_take, List.length_drop]; omega) (rows_app htk (hdr _))
    have d5 := d4.up e5
    refine q_when (b := decide (V.int (kd : Nat) = V.int 1)) (et_test (ev_op (ev_var rfl) ev_c (rv_eq rfl))) (fun hb H6 e6 => ?_) (fun hb H6 e6 => ?_)
    · have d6 := d5.up e6
      exact fin (rs.take at_ ++ [(t, b)] ++ rs.drop at_) _ d6 (en_cat (en_cat (enT d6) (en_lst1 (ec_ixL (K := K) (i := at_) (c := cSI (t, b)) (ev_var rfl) (ex_l d6.ex hs) (hi.up d6.ex) (ev_var rfl) hci)) (by show _ + 1 ≤ _; omega)) (enD d6) (by rw [List.length_append]; have := lc2 at_; show _ + 1 + _ ≤ _; omega)) (by rw [List.map_append, List.map_append, List.map_take, List.map_drop]; rfl)
        (by rw [List.length_append, List.length_append, List.length_take, List.length_drop]; show _ + 1 + _ ≤ _; omega) (rows_app (rows_app htk (fun r hr => by
          have : r = (t, b) := by simpa using hr
          rw [this]
          exact okS_mono (hok _ hrm) (by omega))) (hdr _))
    have d6 := d5.up e6
    refine q_when (b := decide (V.int (kd : Nat) = V.int 2)) (et_test (ev_op (ev_var rfl) ev_c (rv_eq rfl))) (fun hb H7 e7 => ?_) (fun hb H7 e7 => ?_)
    · have d7 := d6.up e7
      exact fin (rs.drop at_ ++ rs.take at_) _ d7 (en_cat (enD d7) (enT d7) (by have := lc2 at_; omega)) (by rw [List.map_append, List.map_take, List.map_drop]) (by rw [List.length_append, List.length_take, List.length_drop]; omega) (rows_app (hdr _) htk)
    have d7 := d6.up e7
    refine q_when (b := decide (((kd : Nat) : Int) < 5)) (et_test (ev_op (ev_var rfl) ev_c rv_I0)) (fun hb H8 e8 => ?_) (fun hb H8 e8 => ?_)
    · have d8 := d7.up e8
      refine r_qasg (r_op2 (r_lst ?_))
      refine r_cons (x := .int (b + 1)) (ev_op (ev_var rfl) ev_c rv_I0) fun G1 f1 => ?_
      refine r_cons (x := .int (b - 1)) (ev_op (ev_var rfl) ev_c rv_I0) fun G2 f2 => ?_
      refine r_cons (x := .int ((n : Nat) - b)) (ev_op (ev_var rfl) (ev_var rfl) rv_I0) fun G3 f3 => ?_
      refine r_cons (x := .int (n : Nat)) (ev_var rfl) fun G4 f4 => ?_
      refine r_cons (x := .int (-1)) (ev_un ev_c ru_neg) fun G5 f5 => ?_
      refine r_cons (x := .int 0) ev_c fun G6 f6 => ?_
      refine r_consR (r_off (m := n) (d8.up (((((f1.trans f2).trans f3).trans f4).trans f5).trans f6)) (by omega) (ea_cons (ev_var rfl) (ea_cons (ev_var rfl) ea_nil)) fun r G7 hr7 _ d9 => ?_)
      refine r_cons (x := .int (b + (n : Nat))) (ev_op (ev_var rfl) (ev_var rfl) rv_I0) fun G8 f8 => ?_
      refine r_pick (m := 8) (d9.up f8) rfl (by decide) (fun H1 _ => ea_cons (ev_var rfl) (ea_cons ev_c ea_nil)) fun v H10 hv d10 => ?_
      obtain ⟨z, rfl⟩ : ∃ z : Int, v = .int z := by
        simp only [List.mem_cons, List.not_mem_nil, or_false] at hv
        rcases hv with h | h | h | h | h | h | h | h <;> exact ⟨_, h⟩
      exact put t z d10 (okS_mono (hok _ hrm) (by omega)) (ev_var rfl) (ev_var rfl)
    · have d8 := d7.up e8
      have cutO : ∀ {H5 : Hp} {σ : L2.St}, σ[4]? = some (some (.str t)) → Ev (tSl rSlS (tVar 4) tNoPart (tPart (tUn (rU fun i => .int (-i)) (tC (.int 1))))) σ H5 (.str (cutS t none (some (-1)))) := fun h => ev_cut' (ev_var h) eo_none (eo_some (ev_un ev_c ru_neg)) (by omega)
      have o0 : okS L (cutS t none (some (-1))) := okS_cut ⟨ht1, ht2⟩
      have o1 : ∀ z : PySem.Str, z = "0" ∨ z = "1" ∨ z = "x" → okS 1 z := fun z hz => by
        rcases hz with rfl | rfl | rfl <;> exact ⟨by decide +kernel, by decide +kernel⟩
      have l0 : ("0" : PySem.Str).length = 1 := rfl
      have l1 : ("1" : PySem.Str).length = 1 := rfl
      refine r_qasg (r_op2 (r_lst ?_))
      refine r_consR ⟨.str t, rfl, t, rfl, by omega, fun z' hz' hzl => ?_⟩
      refine r_cons (x := .str (t ++ "0")) (ev_addS' (ev_var rfl) ev_c (by rw [l0]; omega)) fun G2 f2 => ?_
      refine r_cons (x := .str (cutS t none (some (-1)))) (cutO rfl) fun G3 f3 => ?_
      refine r_cons (x := .str "x") ev_c fun G4 f4 => ?_
      refine r_cons (x := .str "") ev_c fun G5 f5 => ?_
      refine r_cons (x := .str (cutS t none (some (-1)) ++ "1")) (ev_addS' (cutO rfl) ev_c (by have := o0.2; rw [l1]; omega)) fun G6 f6 => ?_
      refine r_pick (m := 6) (d8.up ((((f2.trans f3).trans f4).trans f5).trans f6)) rfl (by decide) (fun H1 _ => ea_cons (ev_var rfl) (ea_cons ev_c ea_nil)) fun v H10 hv d10 => ?_
      obtain ⟨z, rfl, hz⟩ : ∃ z : PySem.Str, v = .str z ∧ okS (L + 1) z := by
        simp only [List.mem_cons, List.not_mem_nil, or_false] at hv
        rcases hv with h | h | h | h | h | h
        · exact ⟨_, h, strOk_sub ht1 hz', by omega⟩
        · exact ⟨_, h, okS_add ⟨ht1, ht2⟩ (o1 _ (.inl rfl))⟩
        · exact ⟨_, h, okS_mono o0 (by omega)⟩
        · exact ⟨_, h, okS_mono (o1 _ (.inr (.inr rfl))) (by omega)⟩
        · exact ⟨_, h, by decide +kernel, by show 0 ≤ _; omega⟩
        · exact ⟨_, h, okS_add o0 (o1 _ (.inr (.inl rfl)))⟩
      exact put z b d10 hz (ev_var rfl) (ev_var rfl)
end
end Bm
namespace Bm
open PySem PySem.Spec PyProof.Rows L2 Evl
section
variable {P : Program} {w : World} {K : PySem.W.Frag} {mg : PySem.Str → Option Value} {base : Heap}
/-! ### law -/
abbrev s_law : Stmt := topS 26
theorem sc_law : FnScope ["_law_script", "_law_d", "_law_beats", "_law_many", "_law_rows", "_law_due", "_law_count", "_law_pattern", "_law_turn", "_law_other", "_law_change", "_law_much", "_law_handed", "_law_told", "_law_good"] ["_law_script"] (defScope s_law) := ⟨rfl, rfl, rfl, by decide +kernel, rfl, by decide +kernel, by decide +kernel⟩
def spLaw (K : PySem.W.Frag) : Sp := fun vs H Q _ => ∃ (a : Addr) (ns : List Int), vs = [.ref a] ∧ SqL K H a (ns.map V.int) ∧ ns.length ≤ 63 ∧ ∀ H', Q (.bl true) H'
theorem law_in {H : Hp} {a : Addr} {ns : List Int} (hl : ns.length ≤ 63) (hO : Only H) (hS : SqL K H a (ns.map V.int)) : spLaw K [.ref a] H (fun v _ => v = .bl true) fun _ _ _ => False := ⟨a, ns, rfl, hS, hl, fun _ => rfl⟩
theorem r_opC {r : R2} {Q : VK} {c : V} {ta : TE} {σ : L2.St} {H : Hp} (h : ta σ H fun y H1 => r c y H1 Q) : tOp r (tC c) ta σ H Q := h
theorem r_cMenu {σ : L2.St} {ta : TA} {D : Addr} {G H : Hp} {i : Nat} {vs : List V} {Q : VK} (d : DD D G H) (hi : σ[i]? = some (some (.ref D))) (ha : EvA ta σ H vs) (hl : vs.length = 4) (hv : ∀ v ∈ vs, ∃ m : Nat, (0 < m ∧ m ≤ 12) ∧ v = .int (m : Nat)) (k : ∀ (r : Nat) (H2 : Hp), r < 12 → DD D G H2 → Q (.int ((1 + r : Nat) : Int)) H2) :
    tOp (rI0 fun i j => .int (i + j)) (tC (.int 1)) (tCall spOff [] E0 (tCons (tVar i) (tCons (tOp (rIxL K) (tLst ta) (tCall spOff [] E0 (tCons (tVar i) (tCons (tC (.int 4)) tNil)))) tNil))) σ H Q :=
  r_opC (r_call2 ⟨.ref D, hi, r_menu (K := K) (m := 4) (vs := vs) d ha hl (by decide) (fun H1 _ => ea_cons (ev_var hi) (ea_cons ev_c ea_nil)) fun v H3 hv3 _ d3 => by
    obtain ⟨m, hm, rfl⟩ := hv v hv3
    exact off_of (m := m) d3 (by omega) fun r H4 hr4 _ d4 => ⟨1, (r : Nat), rfl, rfl, by
      have := k r H4 (by omega) d4
      rw [Int.natCast_add] at this
      exact this⟩⟩)
/-- over a new list of cells; another list is changed -/
theorem q_forNB {σ : L2.St} {H : Hp} {tl : TE} {g : TG} {tu tz : TS} {D : Ends} {cs : List Cel} {L : Addr} {l0 : List V} (h : EvN K tl σ H cs) (hL : H L = some (.lst l0)) (Pv : Hp → Nat → L2.St → Hp → Prop) (h0 : ∀ H1, Ex H H1 → Pv H1 0 σ H1) (hx : ∀ H1 i σ' H', Pv H1 i σ' H' → ExB L H1 H')
    (hs : ∀ H1 i v c σ' H', Ex H H1 → cs[i]? = some c → Is K H' v c → Pv H1 i σ' H' → g v σ' H' fun σ2 H2 => tu { D with nx := Pv H1 (i + 1), ct := Pv H1 (i + 1), bk := tz D } σ2 H2)
    (hd : ∀ H1 σ' H', Ex H H1 → Pv H1 cs.length σ' H' → tz D σ' H') : tSeq (tFor (iList K tl) g tu) tz D σ H :=
  h H (Ex.refl H) _ fun p xs H1 hp e1 h1 i1 => by
    have hpL : p ≠ L := (ne_of_none hL hp).symm
    exact ⟨p, rfl, ⟨xs, sq_of h1⟩, for_list (xs := xs) (D := { D with nx := tz D }) (Pv H1) (h0 H1 e1) (fun i σ' H' _ pr => sq_of (hx _ _ _ _ pr _ _ hpL h1)) (fun i v σ' H' hv pr => by
    obtain ⟨c, hc, ic⟩ := pr_get i1 hv
    exact hs H1 i v c σ' H' e1 hc (ic.ut (ExB.toT (hx _ _ _ _ pr) (e1 _ _ hL))) pr) (fun σ' H' pr => hd H1 σ' H' e1 (by rw [← pr_len i1]; exact pr))⟩
def dueF (m : Nat) (y : Pn) : Bool := decide (y.1 = m) && y.2.getD 0 false
def dueC (y : Pn) : SI := (txt y.2, (((lackM y.2).getD 0 : Nat) : Int))
theorem due_take {n i m : Nat} {y : Pn} (hy : (allP n)[i]? = some y) : ((allP n).take (i + 1)).filter (dueF m) = ((allP n).take i).filter (dueF m) ++ if dueF m y = true then [y] else [] := by
  rw [List.take_add_one, hy, List.filter_append]
  congr 1
  show List.filter (dueF m) [y] = _
  rw [List.filter_cons]
  rfl
theorem due_paper {n : Nat} {x : Pn} (hx : fewestM n = some x) (h1 : 1 ≤ x.1) (hn : x.1 ≤ n) : ((allP n).filter (dueF (x.1 - 1))).map dueC = paperM n := by
  have e0 : paperM n = if 1 < x.1 then paperOf n (x.1 - 1) else [] := by
    unfold paperM
    rw [hx]
  by_cases c : 1 < x.1
  · rw [e0, if_pos c]
    unfold paperOf
    rw [← beg_all (m := x.1 - 1) (by omega) (by omega), List.map_map]
    rfl
  · rw [e0, if_neg c]
    have : (allP n).filter (dueF (x.1 - 1)) = [] := by
      rw [List.filter_eq_nil_iff]
      intro y hy h
      unfold dueF at h
      rw [Bool.and_eq_true] at h
      have h2 := of_decide_eq_true h.1
      have := (mem_allP.mp hy).2.2
      omega
    rw [this]
    rfl
theorem paper_rows {n : Nat} (hn : n ≤ 12) : RowsOk 12 (paperM n) := fun r hr => by
  unfold paperM at hr
  cases h : fewestM n with
  | none => rw [h] at hr; cases hr
  | some x =>
    rw [h] at hr
    have hr : r ∈ if 1 < x.1 then paperOf n (x.1 - 1) else [] := hr
    split at hr
    · unfold paperOf at hr
      obtain ⟨p, hp, rfl⟩ := List.mem_map.mp hr
      refine ⟨txt_ok p, ?_⟩
      show (txt p).length ≤ 12
      rw [txt_len, (mem_begM.mp hp).1]
      exact hn
    · cases hr
theorem eqv_rows (as bs : List SI) : PyData.eqv (.list ((as.map cSI).map datC)) (.list ((bs.map cSI).map datC)) = decide (as = bs) := by
  have e := PySem.W.Datum.eqv as bs
  rw [List.map_map, List.map_map]
  exact e
theorem rows_ok {L : Nat} {rs : List SI} (h : RowsOk L rs) : (rs.map cSI).all okC = true := by
  rw [List.all_map, List.all_eq_true]
  intro r hr
  exact cSI_ok (h r hr).1
theorem ok_law (D : Def1 K mg "law" s_law) (B : Bl mg) (c_law_dice : Cal P w K mg base 1 "_law_dice" ["_law_script", "_law_k"] (spDice K)) (c_law_off : Cal P w K mg base 1 "_law_off" ["_law_d", "_law_most"] spOff)
    (c_law_alike : Cal P w K mg base 3 "_law_alike" ["_law_found", "_law_due"] (spAlike K 2)) (c_law_all : Cal P w K mg base 1 "_law_all" ["_law_beats"] (spLAll K)) (c_law_lacks : Cal P w K mg base 3 "_law_lacks" ["_law_pattern"] spLacks)
    (c_law_shows : Cal P w K mg base 4 "_law_shows" ["_law_beats", "_law_many", "_law_rows"] (spLShows K)) (c_law_spoilt : Cal P w K mg base 2 "_law_spoilt" ["_law_d", "_law_rows", "_law_beats"] (spSpoilt K))
    (c_fewest : Cal P w K mg base 3 "fewest" ["beats"] (spFew K)) (c_paper : Cal P w K mg base 4 "paper" ["beats"] (spPaper K)) (c_shows : Cal P w K mg base 3 "shows" ["beats", "many", "told"] (spShows K)) :
    Cal P w K mg base 6 "law" ["_law_script"] (spLaw K) := by
  refine D.cal sc_law (fun _ _ _ _ _ _ us hl => match us, hl with | [_], _ => rfl) (fun vs H Q E h => ?_) (fun f cdv A outer s H vs Q E hr h => ?_)
  · obtain ⟨a, ns, rfl, _⟩ := h
    rfl
  · obtain ⟨a, ns, rfl, hS, hl, k⟩ := h
    refine ⟨_, (pss_cons (ps_set (i := 1) sc_law.nd rfl (Or.inl rfl) (pe_callC c_law_dice hr (by decide) (pa_cons (pv 0) (pa_cons pe_int pa_nil))))
 (pss_cons (ps_set (i := 2) sc_law.nd rfl (Or.inl rfl) (pe_op op_add pe_int (pe_callC c_law_off hr (by decide) (pa_cons (pv 1) (pa_cons (pe_ix ix_list (pe_lst (pa_cons pe_int (pa_cons pe_int (pa_cons pe_int (pa_cons pe_int pa_nil))))) (pe_callC c_law_off hr (by decide) (pa_cons (pv 1) (pa_cons pe_int pa_nil))) (fun _ _ => rfl)) pa_nil)))))
 (pss_cons (ps_set (i := 3) sc_law.nd rfl (Or.inl rfl) (pe_ix ix_tup (pe_callC c_fewest hr (by decide) (pa_cons (pv 2) pa_nil)) pe_int (fun _ _ => rfl)))
 (pss_cons (ps_set (i := 4) sc_law.nd rfl (Or.inl rfl) (pe_callC c_paper hr (by decide) (pa_cons (pv 2) pa_nil)))
 (pss_cons (ps_set (i := 5) sc_law.nd rfl (Or.inl rfl) (pe_lst pa_nil))
 (pss_cons (ps_for PassesOwn.never rfl (pi_list (pe_callC c_law_all hr (by decide) (pa_cons (pv 2) pa_nil))) (pg_tup rfl (pgs_cons (pg_name (i := 6) sc_law.nd rfl (Or.inl rfl)) (pgs_cons (pg_name (i := 7) sc_law.nd rfl (Or.inl rfl)) pgs_nil)))
 (pss_one (ps_if (PW.pt (pw_and (pt_cmpR op_eq (pv 6) (pe_op op_sub (pv 3) pe_int) (nomark _)) (pw_and1 (pt_cmpR op_eq (pe_ix ix_str (pv 7) pe_int (fun _ _ => rfl)) pe_str (nomark _))))) (pss_one (ps_expr (pe_bm PySem.F.plainAttrs_list PySem.F.slot_list_append PySem.F.type_list_append mt_append (pv 5) (pa_cons (pe_tup (pa_cons (pv 7) (pa_cons (pe_ix ix_list (pe_callC c_law_lacks hr (by decide) (pa_cons (pv 7) pa_nil)) pe_int (fun _ _ => rfl)) pa_nil))) pa_nil))))
 pss_nil)))
 (pss_cons (ps_if (pt_not (pt_val (pe_callC c_law_alike hr (by decide) (pa_cons (pv 4) (pa_cons (pv 5) pa_nil))))) (pss_one (ps_ret pe_bl))
 pss_nil)
 (pss_cons (ps_for PassesOwn.never rfl (pi_range1 (by rfl) B.range (pa_cons pe_int pa_nil)) (pg_name (i := 8) sc_law.nd rfl (Or.inl rfl))
 (pss_cons (ps_set (i := 9) sc_law.nd rfl (Or.inl rfl) (pe_callTy call_list_of (by rfl) B.list (by decide +kernel) (pa_cons (pv 5) pa_nil)))
 (pss_cons (ps_for PassesOwn.never rfl (pi_range1 (by rfl) B.range (pa_cons (pe_callC c_law_off hr (by decide) (pa_cons (pv 1) (pa_cons pe_int pa_nil))) pa_nil)) (pg_name (i := 10) sc_law.nd rfl (Or.inl rfl))
 (pss_one (ps_if (pt_cmpR (op_neD hr.units) (pv 9) (pe_lst pa_nil) (nomark _)) (pss_one (ps_set (i := 9) sc_law.nd rfl (Or.inl rfl) (pe_callC c_law_spoilt hr (by decide) (pa_cons (pv 1) (pa_cons (pv 9) (pa_cons (pv 2) pa_nil))))))
 pss_nil)))
 (pss_cons (ps_set (i := 11) sc_law.nd rfl (Or.inl rfl) (pe_ix ix_list (pe_lst (pa_cons (pe_callB (call_max2 rfl) (by rfl) B.max (by decide +kernel) (pa_cons pe_int (pa_cons (pe_op op_sub (pv 3) pe_int) pa_nil))) (pa_cons (pe_op op_sub (pv 3) pe_int) (pa_cons (pe_callC c_law_off hr (by decide) (pa_cons (pv 1) (pa_cons (pe_op op_add (pv 2) pe_int) pa_nil))) pa_nil)))) (pe_callC c_law_off hr (by decide) (pa_cons (pv 1) (pa_cons pe_int pa_nil))) (fun _ _ => rfl)))
 (pss_cons (ps_set (i := 12) sc_law.nd rfl (Or.inl rfl) (pe_callTy call_list_of (by rfl) B.list (by decide +kernel) (pa_cons (pv 9) pa_nil)))
 (pss_cons (ps_set (i := 13) sc_law.nd rfl (Or.inl rfl) (pe_callC c_shows hr (by decide) (pa_cons (pv 2) (pa_cons (pv 11) (pa_cons (pv 12) pa_nil)))))
 (pss_cons (ps_set (i := 14) sc_law.nd rfl (Or.inl rfl) (pe_cmpR (op_eqD hr.units) (pv 9) (pe_lst pa_nil) (nomark _)))
 (pss_cons (ps_if (pt_cmpR op_gt (pv 11) pe_int (nomark _)) (pss_one (ps_set (i := 14) sc_law.nd rfl (Or.inl rfl) (pe_callC c_law_shows hr (by decide) (pa_cons (pv 2) (pa_cons (pv 11) (pa_cons (pv 9) pa_nil))))))
 pss_nil)
 (pss_one (ps_if (PW.pt (pw_or (pt_not (pt_val (pe_callC c_law_alike hr (by decide) (pa_cons (pv 13) (pa_cons (pv 14) pa_nil))))) (pw_or1 (pt_cmpR (op_neD hr.units) (pv 12) (pv 9) (nomark _))))) (pss_one (ps_ret pe_bl))
 pss_nil))))))))))
 (pss_cons (ps_expr (pe_bm PySem.F.plainAttrs_list PySem.F.slot_list_append PySem.F.type_list_append mt_append (pv 4) (pa_cons (pe_tup pa_nil) pa_nil)))
 (pss_one (ps_ret (pe_callC c_law_alike hr (by decide) (pa_cons (pe_callC c_paper hr (by decide) (pa_cons (pv 2) pa_nil)) (pa_cons (pv 5) pa_nil)))))))))))))), ?_⟩
    refine r_qasg (r_call (ea_cons (ev_var rfl) (ea_cons ev_c ea_nil)) fun G e1 => ⟨a, ns, 0, rfl, ex_l e1 hS, by omega, fun D ds H2 hD e2 h2 hd => ?_⟩)
    have d : DD D G H2 := ⟨hD, e2, ds, h2, hd⟩
    refine r_qasg (r_cMenu (vs := [.int 9, .int 9, .int 9, .int 12]) d rfl (ea_cons ev_c (ea_cons ev_c (ea_cons ev_c (ea_cons ev_c ea_nil)))) rfl (fun v hv => by
      simp at hv
      rcases hv with rfl | rfl
      · exact ⟨9, by decide, rfl⟩
      · exact ⟨12, by decide, rfl⟩) fun r H4 hr4 d4 => ?_)
    generalize hn : 1 + r = n
    have hn12 : 1 ≤ n ∧ n ≤ 12 := by omega
    obtain ⟨x, hx⟩ := few_ex hn12.1
    obtain ⟨hxm, hxl⟩ := few_facts hx
    obtain ⟨xl, xc, x1⟩ := mem_allP.mp hxm
    have hcl : ct x.2 ≤ x.2.length := List.count_le_length
    have hpl := paper_len hn12.2
    have hpr := paper_rows hn12.2
    have hal := allP_len hn12.2
    refine q_asg (v := .int (x.1 : Nat)) (ev_ixC (K := K) (i := 0) (xs := [.int (x.1 : Nat), .str (txt x.2)]) (ec_call (ea_cons (ev_var rfl) ea_nil) fun H1 e Q k => ⟨n, rfl, hn12, by rw [hx]; exact k⟩) ev_c rfl) fun H5 e5 => ?_
    have d5 := d4.up e5
    refine q_asgN (K := K) (cs := (paperM n).map cSI) (en_call (ea_cons (ev_var rfl) ea_nil) fun H1 e Q k => ⟨n, rfl, hn12, k⟩) fun RL rx H6 hRL e6 h6 i6 => ?_
    have d6 := d5.up e6
    have hRD : RL ≠ D := d5.ne hRL
    refine q_asgL (xs := []) (el_lst ea_nil (Nat.zero_le _)) fun DL H7 hDL e7 h7 => ?_
    have d7 := d6.up e7
    have hDD : DL ≠ D := d6.ne hDL
    have hRDL : RL ≠ DL := ne_of_none h6 hDL
    have es : ((x.1 : Nat) : Int) - 1 = ((x.1 - 1 : Nat) : Int) := by omega
    refine q_forNB (K := K) (cs := (allP n).map cP) (L := DL) (l0 := []) (en_call (ea_cons (ev_var rfl) ea_nil) fun H1 e Q k => ⟨n, rfl, hn12.2, k⟩) h7
      (fun H1 i σ H' => (∃ y6 y7, σ = [some (.ref a), some (.ref D), some (.int (n : Nat)), some (.int (x.1 : Nat)), some (.ref RL), some (.ref DL), y6, y7, none, none, none, none, none, none, none]) ∧ ExB DL H1 H' ∧ ∃ ys, H' DL = some (.lst ys) ∧ IsAll K H' ys (((((allP n).take i).filter (dueF (x.1 - 1))).map dueC).map cSI))
      (fun H1 e1 => ⟨⟨_, _, rfl⟩, ExB.refl, [], e1 _ _ h7, .nil⟩) (fun H1 i σ' H' pr => pr.2.1) (fun H1 i v c σ' H' e1 hc ic pr => ?_) (fun H1 σ' H' e8 pr => ?_)
    · obtain ⟨⟨y6, y7, rfl⟩, e9, ys, h9, i9⟩ := pr
      obtain ⟨y, hy, hym, rfl⟩ := at_map hc
      have hdt := due_take (m := x.1 - 1) hy
      obtain ⟨ym, yt⟩ := y
      obtain ⟨yl, yc, y1⟩ := mem_allP.mp hym
      have yl : yt.length = n := yl
      have yc : ct yt = ym := yc
      refine g_cell2 (K := K) ic ?_
      refine s_when (b := dueF (x.1 - 1) (ym, yt)) (et_and (et_is (et_test (ev_op (ev_var rfl) (ev_is (ev_op (ev_var rfl) ev_c rv_I0) (congrArg V.int es)) (rv_eq rfl))) ?_) (fun _ => et_test (ev_is1 (ev_ixP (p := yt) (i := 0) (ev_var rfl) ev_c (by omega) (by omega)) ev_c))) (fun hb H10 e10 => ?_) (fun hb H10 e10 => ?_)
      · exact decide_eq_decide.mpr ⟨fun h => by have h2 : ((ym : Nat) : Int) = ((x.1 - 1 : Nat) : Int) := V.int.inj h; show ym = _; omega, fun h => by have h : ym = x.1 - 1 := h; show V.int ((ym : Nat) : Int) = V.int ((x.1 - 1 : Nat) : Int); rw [h]⟩
      · have hf : ym = x.1 - 1 := by
          unfold dueF at hb
          rw [Bool.and_eq_true] at hb
          exact of_decide_eq_true hb.1
        obtain ⟨dl, hdl⟩ := lack_less hx yl (by show 1 ≤ ct yt; omega) (by show ct yt < x.1; omega)
        have hl0 : (lacksM yt)[0]? = some dl := by
          rw [← List.head?_eq_getElem?, lacks_head, hdl]
        have h10 := e10 _ _ h9
        have hyl : ys.length ≤ 4096 := by
          have := pr_len i9
          rw [List.length_map, List.length_map] at this
          have h1 := List.length_filter_le (dueF (x.1 - 1)) ((allP n).take i)
          rw [List.length_take] at h1
          omega
        refine s_appC (K := K) (c := cSI (dueC (ym, yt))) h10 (ev_var rfl) (ec_tup (ea_cons (ev_var rfl) (ea_cons (ev_opL1 (xs := (lacksM yt).map fun d => V.int (d : Nat)) (y := .int ((0 : Nat) : Int)) (z := .int (((lackM yt).getD 0 : Nat) : Int)) (el_call (ea_cons (ev_var rfl) ea_nil) fun H1 e Q k E => ⟨yt, rfl, ⟨by omega, by omega⟩, k⟩) (fun _ _ => ev_c) fun p H1 hp _ => rv_ixL (K := K) (sq_of hp) (atI_nat (j := 0) (by rw [List.getElem?_map, hl0, hdl]; rfl))) ea_nil)) (by show 2 ≤ 1000; decide)) (by omega) fun v H11 e11 i11 => ⟨⟨_, _, rfl⟩, (e9.trans (Ex.b (e10.trans e11))).trans ExB.upd, _, upd_same, ?_⟩
        rw [hdt, if_pos hb, List.map_append, List.map_append]
        have h11 := e11 _ _ h10
        exact pr_app ((i9.up (e10.trans e11)).ut (ExT.upd h11)) (.cons (i11.ut (ExT.upd h11)) .nil)
      · refine ⟨⟨_, _, rfl⟩, e9.trans (Ex.b e10), ys, e10 _ _ h9, ?_⟩
        rw [hdt, if_neg (by rw [hb]; decide), List.append_nil]
        exact i9.up e10
    · obtain ⟨⟨y6, y7, rfl⟩, e9, ys, h9, i9⟩ := pr
      rw [List.length_map, List.take_length, due_paper hx x1 (by omega)] at i9
      have e79 : ExB DL H7 H' := (Ex.b e8).trans e9
      have h9R : H' RL = some (.lst rx) := e79 _ _ hRDL (e7 _ _ h6)
      have i9R : IsAll K H' rx ((paperM n).map cSI) := (i6.up e7).ut (ExB.toT e79 h7)
      have d9 : DD D (off_ H' D) H' := by
        obtain ⟨ds', h2', hd'⟩ := d7.at_
        have hD' : H' D = some (.lst (ds'.map V.int)) := e79 _ _ hDD.symm hd'
        refine ⟨by unfold off_; rw [if_pos rfl], fun a o q => ?_, ds', h2', hD'⟩
        unfold off_ at q
        split at q
        · cases q
        · exact q
      have al1 : ∀ {H3 : Hp} {a b : Addr} {xs ys : List V}, SqL K H3 a xs → IsAll K H3 xs ((paperM n).map cSI) → SqL K H3 b ys → IsAll K H3 ys ((paperM n).map cSI) → Al K H3 2 (.ref a) (.ref b) := fun h1 h2 h3 h4 =>
        al_list h1 h2 h3 h4 (by rw [List.length_map]; omega) fun c hc u v iu iv => by
          obtain ⟨r, _, rfl⟩ := List.mem_map.mp hc
          exact al_tup iu iv rfl (by show 2 ≤ 40000; decide)
      refine q_when (b := false) (et_not (a := true) (et_B (ev_call (ea_cons (ev_var rfl) (ea_cons (ev_var rfl) ea_nil)) fun H1 e Q k E => ⟨_, _, rfl, al1 (sq_of (e _ _ h9R)) (i9R.up e) (sq_of (e _ _ h9)) (i9.up e), k⟩))) (fun hb => nomatch hb) (fun _ H10 e10 => ?_)
      have d10 := d9.up e10
      have gOf : ∀ {p : Addr} {o : HO}, p ≠ D → H' p = some o → off_ H' D p = some o := fun hp h => by
        unfold off_
        rw [if_neg hp]
        exact h
      have gR := gOf hRD h9R
      have gD := gOf hDD h9
      have tOff : ExT H' (off_ H' D) := fun b xs => ⟨fun h => gOf (fun z => by
          obtain ⟨_, _, hd'⟩ := d9.at_
          rw [z, hd'] at h
          cases h) h, fun o h => gOf (fun z => by
          obtain ⟨_, _, hd'⟩ := d9.at_
          rw [z, hd'] at h
          cases h) h⟩
      have iR := i9R.ut tOff
      have iD := i9.ut tOff
      generalize off_ H' D = G' at d9 d10 gR gD iR iD
      refine q_forR1 (n := 4) (ea_cons ev_c ea_nil) (by decide) (fun i σ H3 => (∃ y8 y9 y10 y11 y12 y13 y14, σ = [some (.ref a), some (.ref D), some (.int (n : Nat)), some (.int (x.1 : Nat)), some (.ref RL), some (.ref DL), y6, y7, y8, y9, y10, y11, y12, y13, y14]) ∧ DD D G' H3)
        (fun H11 e11 => ⟨⟨_, _, _, _, _, _, _, rfl⟩, d10.up e11⟩) (fun i σ' H11 hi pr => ?_) (fun σ' H11 pr => ?_)
      · obtain ⟨⟨y8, y9, y10, y11, y12, y13, y14, rfl⟩, d11⟩ := pr
        refine q_asgN (K := K) (cs := (paperM n).map cSI) (en_listL (ev_var rfl) (sq_of (d11.ex _ _ gD)) (iD.up d11.ex)) fun OL ox H12 hOL e12 h12 i12 => ?_
        have d12 := d11.up e12
        refine r_qforOff (m := 3) (j := 10) d12 (by decide) (ea_cons (ev_var rfl) (ea_cons ev_c ea_nil))
          (fun nn i σ H3 => ∃ z8 OL ox rs z10, σ = [some (.ref a), some (.ref D), some (.int (n : Nat)), some (.int (x.1 : Nat)), some (.ref RL), some (.ref DL), y6, y7, z8, some (.ref OL), z10, y11, y12, y13, y14] ∧ DD D G' H3 ∧ OL ≠ D ∧ H3 OL = some (.lst ox) ∧ IsAll K H3 ox (rs.map cSI) ∧ rs.length ≤ 4096 + i ∧ RowsOk (12 + i) rs)
          (fun nn H13 _ e13 d13 => ⟨_, OL, ox, paperM n, _, rfl, d13, d11.ne hOL, e13 _ _ (d11.ne hOL) h12, by
            obtain ⟨_, _, hd'⟩ := d12.at_
            exact i12.ut (ExB.toT e13 hd'), hpl, hpr⟩) (fun nn j σ' H13 hnn hj pr => ?_) (fun nn σ' H13 hnn pr => ?_)
        · obtain ⟨z8, OL, ox, rs, z10, rfl, d13, hOD, h13, i13, hrl, hro⟩ := pr
          refine s_when (b := !(rs.map cSI).isEmpty) (et_test (ev_nnilL (K := K) (ev_var rfl) (sq_of h13) i13 (rows_ok hro))) (fun hb H14 e14 => ?_) (fun hb H14 e14 => ?_)
          · have d14 := d13.up e14
            have hr0 : 0 < rs.length := by
              cases rs with
              | nil => cases hb
              | cons _ _ => exact Nat.succ_pos _
            refine r_asg (r_call (ea_cons (ev_var rfl) (ea_cons (ev_var rfl) (ea_cons (ev_var rfl) ea_nil))) fun H15 e15 => ?_)
            obtain ⟨dA, dE⟩ := (d14.up e15).all
            have g15 : off_ H15 D OL = some (.lst ox) := by
              unfold off_
              rw [if_neg hOD]
              exact e15 _ _ (e14 _ _ h13)
            have t15 : ExT H15 (off_ H15 D) := fun b xs => ⟨fun h => by
                unfold off_
                rw [if_neg fun z => by
                  obtain ⟨_, _, hd'⟩ := (d14.up e15).at_
                  rw [z, hd'] at h
                  cases h]
                exact h, fun o h => by
                unfold off_
                rw [if_neg fun z => by
                  obtain ⟨_, _, hd'⟩ := (d14.up e15).at_
                  rw [z, hd'] at h
                  cases h]
                exact h⟩
            refine ⟨D, off_ H15 D, OL, ox, rs, n, 12 + j, rfl, dA, sq_of g15, (i13.up (e14.trans e15)).ut t15, ⟨hr0, by omega⟩, hn12, hro, by omega, fun p zs rs' H16 hp hpD d16 h16 i16 hl16 ho16 => ?_⟩
            exact ⟨_, p, zs, rs', _, rfl, d16.weaken dE d14.no, hpD, h16, i16, by omega, ho16⟩
          · exact ⟨_, OL, ox, rs, _, rfl, d13.up e14, hOD, e14 _ _ h13, i13.up e14, by omega, rows_sub hro (fun _ h => h) (by omega)⟩
        · obtain ⟨z8, OL, ox, rs, z10, rfl, d13, hOD, h13, i13, hrl, hro⟩ := pr
          -- how many
          refine r_qasg (r_op2 (r_lst ?_))
          refine r_cons (x := .int ((x.1 - 1 : Nat) : Int)) (ev_is (ev_max2 (i := 0) (j := ((x.1 - 1 : Nat) : Int)) ev_c (ev_is (ev_op (ev_var rfl) ev_c rv_I0) (congrArg V.int es))) (by congr 1; split <;> omega)) fun G1 f1 => ?_
          refine r_cons (x := .int ((x.1 - 1 : Nat) : Int)) (ev_is (ev_op (ev_var rfl) ev_c rv_I0) (congrArg V.int es)) fun G2 f2 => ?_
          have dx := d13.up (f1.trans f2)
          have hx2 := (f1.trans f2) _ _ h13
          have ix2 := i13.up (f1.trans f2)
          refine r_consR (r_off (m := n + 1) dx (by omega) (ea_cons (ev_var rfl) (ea_cons (ev_addN (b := 1) (ev_var rfl) ev_c) ea_nil)) fun q H14 hq e14 d14 => ?_)
          have h14 := e14 _ _ hOD hx2
          have i14 : IsAll K H14 ox (rs.map cSI) := by
            obtain ⟨_, _, hd'⟩ := dx.at_
            exact ix2.ut (ExB.toT e14 hd')
          obtain ⟨dA, dE⟩ := d14.all
          have g14 : off_ H14 D OL = some (.lst ox) := by
            unfold off_
            rw [if_neg hOD]
            exact h14
          have t14 : ExT H14 (off_ H14 D) := fun b xs => ⟨fun h => by
              unfold off_
              rw [if_neg fun z => by
                obtain ⟨_, _, hd'⟩ := d14.at_
                rw [z, hd'] at h
                cases h]
              exact h, fun o h => by
              unfold off_
              rw [if_neg fun z => by
                obtain ⟨_, _, hd'⟩ := d14.at_
                rw [z, hd'] at h
                cases h]
              exact h⟩
          have iA := i14.ut t14
          have hno := d14.no
          generalize off_ H14 D = G2' at dA dE g14 iA
          refine r_pick (m := 3) dA rfl (by decide) (fun H1 _ => ea_cons (ev_var rfl) (ea_cons ev_c ea_nil)) fun v H15 hv d15 => ?_
          obtain ⟨m, rfl, hm⟩ : ∃ m : Nat, v = .int (m : Nat) ∧ m ≤ n := by
            simp only [List.mem_cons, List.not_mem_nil, or_false] at hv
            rcases hv with h | h | h
            · exact ⟨_, h, by omega⟩
            · exact ⟨_, h, by omega⟩
            · exact ⟨_, h, by omega⟩
          have h15 := d15.ex _ _ g14
          have i15 := iA.up d15.ex
          refine q_asgN (K := K) (cs := rs.map cSI) (en_listL (ev_var rfl) (sq_of h15) i15) fun HL hx' H16 hHL e16 h16 i16 => ?_
          refine q_asg (v := .bl (showsM n m rs)) (ev_call (ea_cons (ev_var rfl) (ea_cons (ev_var rfl) (ea_cons (ev_var rfl) ea_nil))) fun H1 e Q k E => ⟨n, m, HL, hx', rs, rfl, hn12, hm, sq_of (e _ _ h16), i16.up e, by omega, fun r hr => (hro r hr).1, k⟩) fun H17 e17 => ?_
          have e67 := e16.trans e17
          refine q_asg (v := .bl (rs.map cSI).isEmpty) (ev_nilL (K := K) (ev_var rfl) (sq_of (e67 _ _ h15)) (i15.up e67) (rows_ok hro)) fun H18 e18 => ?_
          have e68 := e67.trans e18
          refine q_ifAsg (v := .bl (showsM n m rs)) (b := decide ((0 : Int) < (m : Nat))) (et_test (ev_op (ev_var rfl) ev_c rv_I0)) (fun hb => ev_call (ea_cons (ev_var rfl) (ea_cons (ev_var rfl) (ea_cons (ev_var rfl) ea_nil))) fun H1 e Q k E => ⟨n, m, OL, ox, rs, rfl, hn12, ⟨by have := of_decide_eq_true hb; omega, hm⟩, sq_of (e _ _ (e68 _ _ h15)), i15.up (e68.trans e), by omega, fun r hr => (hro r hr).1, k⟩) (fun hb => ?_) (fun H19 e19 => ?_)
          · have h0 : m = 0 := by
              have := of_decide_eq_false hb
              omega
            have : showsM n m rs = (rs.map cSI).isEmpty := by
              unfold showsM
              rw [if_pos h0, List.isEmpty_map]
            rw [this]
            rfl
          · have e69 := e68.trans e19
            have hNe : Ev (tOp (rNeD K) (tVar 12) (tVar 9)) [some (.ref a), some (.ref D), some (.int (n : Nat)), some (.int (x.1 : Nat)), some (.ref RL), some (.ref DL), y6, y7, z8, some (.ref OL), z10, some (.int (m : Nat)), some (.ref HL), some (.bl (showsM n m rs)), some (.bl (showsM n m rs))] H19 (.bl false) := fun H2 e2 Q q =>
              ⟨.ref HL, rfl, .ref OL, rfl, _, _, .lst (sq_of (e2 _ _ (e19 _ _ (e18 _ _ (e17 _ _ h16))))) (dp_cs (i16.up (((e17.trans e18).trans e19).trans e2)) (rows_ok hro)), .lst (sq_of (e2 _ _ (e69 _ _ h15))) (dp_cs (i15.up (e69.trans e2)) (rows_ok hro)), shaped_cs (rows_ok hro), shaped_cs (rows_ok hro), by
                rw [eqv_rows, decide_eq_true rfl]
                exact q H2 (Ex.refl H2)⟩
            refine s_when (b := false) (et_or (a := false) (b := false) (et_not (a := true) (et_B (ev_call (ea_cons (ev_var rfl) (ea_cons (ev_var rfl) ea_nil)) fun H1 e Q k E => ⟨_, _, rfl, al_sc rfl, k⟩))) (fun _ => et_test hNe)) (fun hb => nomatch hb) (fun _ H20 e20 => ?_)
            exact ⟨⟨_, _, _, _, _, _, _, rfl⟩, (d15.up (e69.trans e20)).weaken dE hno⟩
      · obtain ⟨⟨y8, y9, y10, y11, y12, y13, y14, rfl⟩, d11⟩ := pr
        refine q_appU (K := K) (ys := []) (d11.ex _ _ gR) (ev_var rfl) (eu_tup ea_nil (Nat.zero_le _)) (by have := pr_len iR; rw [List.length_map] at this; omega) fun p H12 hp e12 h12 => ?_
        have h13D : (upd H12 RL (.lst (rx ++ [.ref p]))) DL = some (.lst ys) := by
          rw [upd_ne hRDL.symm]
          exact e12 _ _ (d11.ex _ _ gD)
        have i13D : IsAll K (upd H12 RL (.lst (rx ++ [.ref p]))) ys ((paperM n).map cSI) := ((iD.up d11.ex).up e12).ut (ExT.upd (e12 _ _ (d11.ex _ _ gR)))
        exact (en_call (K := K) (cs := (paperM n).map cSI) (ea_cons (ev_var rfl) ea_nil) fun H1 e Q k => ⟨n, rfl, hn12, k⟩) _ (Ex.refl _) _ fun PL px H14 hP e14 h14 i14 => ⟨.ref DL, rfl, _, _, rfl, al1 (sq_of h14) i14 (sq_of (e14 _ _ h13D)) (i13D.up e14), fun H15 _ => k H15⟩
end
end Bm
namespace Bm
open PySem PySem.Spec PyProof.Rows L2 Evl
/-! ### the head -/
def dd (x : PySem.Str) (st : Stmt) : He.DefD := ⟨(x, none), x, x, defArgs st, defBody st, defScope st, [], []⟩
def fn : List He.DefD := [dd "need_beats" s_need_beats, dd "awake_of" s_awake_of, dd "all_of" s_all_of, dd "lacking" s_lacking, dd "fewest" s_fewest, dd "beginning" s_beginning, dd "paper" s_paper, dd "shows" s_shows, dd "_law_dice" s_law_dice, dd "_law_off" s_law_off, dd "_law_alike" s_law_alike, dd "_law_ones" s_law_ones, dd "_law_all" s_law_all, dd "_law_apart" s_law_apart, dd "_law_lacks" s_law_lacks, dd "_law_shows" s_law_shows, dd "_law_spoilt" s_law_spoilt, dd "law" s_law]
def fa : List He.Fa := [.glo "need_beats", .glo "awake_of", .glo "all_of", .glo "lacking", .glo "fewest", .glo "beginning", .glo "paper", .glo "shows", .glo "_law_dice", .glo "_law_off", .glo "_law_alike", .glo "_law_ones", .glo "_law_all", .glo "_law_apart", .glo "_law_lacks", .glo "_law_shows", .glo "_law_spoilt", .glo "law", .free "len", .free "range", .free "int", .free "abs", .free "max", .free "min", .free "sorted", .free "isinstance", .free "bool", .free "str", .free "tuple", .free "list", .free "all", .free "enumerate", .free "set", .int "MOST_BEATS" 12, .str "AWAKE" "1", .str "ASLEEP" "0"]
abbrev R : PySem.W.OpenRow := PySem.W.OpenLaw.row PySem.Challenge.rw_beaconmeet_k07_whole_papers
abbrev hk : PySem.W.Hook := He.hookD 4 fa fn
def ob (s : PySem.W.SharedT) : He.AlD := He.obsDG 4 fa fn (HandSHeadRun.getT s)
theorem ob_eq (s : PySem.W.SharedT) : ob s = hk.obs s.abs := He.obsDG_eq (HandSHeadRun.getT_eq s)
def loose : List PySem.Str := ["MeetError", "BadNumber", "MOST_BEATS", "AWAKE", "ASLEEP", "need_beats", "awake_of", "all_of", "lacking", "fewest", "beginning", "paper", "shows", "_law_dice", "_law_off", "_law_alike", "_law_ones", "_law_all", "_law_apart", "_law_lacks", "_law_shows", "_law_spoilt"]
theorem run (w : World) : HandSHeadRun.RunEq R (PySem.W.view R.prog [26]) hk ob 3000 loose w := by
  intro os
  kernel_rfl
theorem facts {P : Program} {w : World} {K : PySem.W.Frag} {h : Heap} {mg : PySem.Str → Option Value} {f : Addr} (X : K.In h) (G : h.Ns mainGlobals mg) (hfa : mg ("law" : PySem.Str) = some (.ref f)) (c : He.SaysD fa fn K) :
    ∃ fd : FuncData, (∀ (s : Shared) (v : Value), BindsTo s fd ⟨[v], []⟩ [("_law_script", v)]) ∧ ∀ base : Heap, K.In base → base.Ns mainGlobals mg → FnOk P w K mg base CX0 6 f fd ["_law_script"] (spLaw K) := by
  have D_need_beats : Def1 K mg "need_beats" s_need_beats := by
    obtain ⟨fd, F⟩ := c.def_ 0 (d := dd "need_beats" s_need_beats) rfl
    exact ⟨_, fd, F, He.glo_ok X G (c.fact 0 (f := .glo "need_beats") rfl)⟩
  have D_awake_of : Def1 K mg "awake_of" s_awake_of := by
    obtain ⟨fd, F⟩ := c.def_ 1 (d := dd "awake_of" s_awake_of) rfl
    exact ⟨_, fd, F, He.glo_ok X G (c.fact 1 (f := .glo "awake_of") rfl)⟩
  have D_all_of : Def1 K mg "all_of" s_all_of := by
    obtain ⟨fd, F⟩ := c.def_ 2 (d := dd "all_of" s_all_of) rfl
    exact ⟨_, fd, F, He.glo_ok X G (c.fact 2 (f := .glo "all_of") rfl)⟩
  have D_lacking : Def1 K mg "lacking" s_lacking := by
    obtain ⟨fd, F⟩ := c.def_ 3 (d := dd "lacking" s_lacking) rfl
    exact ⟨_, fd, F, He.glo_ok X G (c.fact 3 (f := .glo "lacking") rfl)⟩
  have D_fewest : Def1 K mg "fewest" s_fewest := by
    obtain ⟨fd, F⟩ := c.def_ 4 (d := dd "fewest" s_fewest) rfl
    exact ⟨_, fd, F, He.glo_ok X G (c.fact 4 (f := .glo "fewest") rfl)⟩
  have D_beginning : Def1 K mg "beginning" s_beginning := by
    obtain ⟨fd, F⟩ := c.def_ 5 (d := dd "beginning" s_beginning) rfl
    exact ⟨_, fd, F, He.glo_ok X G (c.fact 5 (f := .glo "beginning") rfl)⟩
  have D_paper : Def1 K mg "paper" s_paper := by
    obtain ⟨fd, F⟩ := c.def_ 6 (d := dd "paper" s_paper) rfl
    exact ⟨_, fd, F, He.glo_ok X G (c.fact 6 (f := .glo "paper") rfl)⟩
  have D_shows : Def1 K mg "shows" s_shows := by
    obtain ⟨fd, F⟩ := c.def_ 7 (d := dd "shows" s_shows) rfl
    exact ⟨_, fd, F, He.glo_ok X G (c.fact 7 (f := .glo "shows") rfl)⟩
  have D_law_dice : Def1 K mg "_law_dice" s_law_dice := by
    obtain ⟨fd, F⟩ := c.def_ 8 (d := dd "_law_dice" s_law_dice) rfl
    exact ⟨_, fd, F, He.glo_ok X G (c.fact 8 (f := .glo "_law_dice") rfl)⟩
  have D_law_off : Def1 K mg "_law_off" s_law_off := by
    obtain ⟨fd, F⟩ := c.def_ 9 (d := dd "_law_off" s_law_off) rfl
    exact ⟨_, fd, F, He.glo_ok X G (c.fact 9 (f := .glo "_law_off") rfl)⟩
  have D_law_alike : Def1 K mg "_law_alike" s_law_alike := by
    obtain ⟨fd, F⟩ := c.def_ 10 (d := dd "_law_alike" s_law_alike) rfl
    exact ⟨_, fd, F, He.glo_ok X G (c.fact 10 (f := .glo "_law_alike") rfl)⟩
  have D_law_ones : Def1 K mg "_law_ones" s_law_ones := by
    obtain ⟨fd, F⟩ := c.def_ 11 (d := dd "_law_ones" s_law_ones) rfl
    exact ⟨_, fd, F, He.glo_ok X G (c.fact 11 (f := .glo "_law_ones") rfl)⟩
  have D_law_all : Def1 K mg "_law_all" s_law_all := by
    obtain ⟨fd, F⟩ := c.def_ 12 (d := dd "_law_all" s_law_all) rfl
    exact ⟨_, fd, F, He.glo_ok X G (c.fact 12 (f := .glo "_law_all") rfl)⟩
  have D_law_apart : Def1 K mg "_law_apart" s_law_apart := by
    obtain ⟨fd, F⟩ := c.def_ 13 (d := dd "_law_apart" s_law_apart) rfl
    exact ⟨_, fd, F, He.glo_ok X G (c.fact 13 (f := .glo "_law_apart") rfl)⟩
  have D_law_lacks : Def1 K mg "_law_lacks" s_law_lacks := by
    obtain ⟨fd, F⟩ := c.def_ 14 (d := dd "_law_lacks" s_law_lacks) rfl
    exact ⟨_, fd, F, He.glo_ok X G (c.fact 14 (f := .glo "_law_lacks") rfl)⟩
  have D_law_shows : Def1 K mg "_law_shows" s_law_shows := by
    obtain ⟨fd, F⟩ := c.def_ 15 (d := dd "_law_shows" s_law_shows) rfl
    exact ⟨_, fd, F, He.glo_ok X G (c.fact 15 (f := .glo "_law_shows") rfl)⟩
  have D_law_spoilt : Def1 K mg "_law_spoilt" s_law_spoilt := by
    obtain ⟨fd, F⟩ := c.def_ 16 (d := dd "_law_spoilt" s_law_spoilt) rfl
    exact ⟨_, fd, F, He.glo_ok X G (c.fact 16 (f := .glo "_law_spoilt") rfl)⟩
  have D_law : Def1 K mg "law" s_law := by
    obtain ⟨fd, F⟩ := c.def_ 17 (d := dd "law" s_law) rfl
    exact ⟨_, fd, F, He.glo_ok X G (c.fact 17 (f := .glo "law") rfl)⟩
  have B : Bl mg := ⟨He.free_ok X G (c.fact 18 (f := .free "len") rfl), He.free_ok X G (c.fact 19 (f := .free "range") rfl), He.free_ok X G (c.fact 20 (f := .free "int") rfl), He.free_ok X G (c.fact 21 (f := .free "abs") rfl), He.free_ok X G (c.fact 22 (f := .free "max") rfl), He.free_ok X G (c.fact 23 (f := .free "min") rfl), He.free_ok X G (c.fact 24 (f := .free "sorted") rfl), He.free_ok X G (c.fact 25 (f := .free "isinstance") rfl), He.free_ok X G (c.fact 26 (f := .free "bool") rfl), He.free_ok X G (c.fact 27 (f := .free "str") rfl), He.free_ok X G (c.fact 28 (f := .free "tuple") rfl), He.free_ok X G (c.fact 29 (f := .free "list") rfl), He.free_ok X G (c.fact 30 (f := .free "all") rfl), He.free_ok X G (c.fact 31 (f := .free "enumerate") rfl), He.free_ok X G (c.fact 32 (f := .free "set") rfl)⟩
  have g_MOST_BEATS := He.int_ok X G (c.fact 33 (f := .int "MOST_BEATS" 12) rfl)
  have g_AWAKE := He.str_ok X G (c.fact 34 (f := .str "AWAKE" "1") rfl)
  have g_ASLEEP := He.str_ok X G (c.fact 35 (f := .str "ASLEEP" "0") rfl)
  obtain ⟨fd, F⟩ := c.def_ 17 (d := dd "law" s_law) rfl
  have b := FunD.bindsA (ps := ["_law_script"]) F fun _ _ _ _ _ _ us hl => match us, hl with | [_], _ => rfl
  have lk : ∃ oc od osl, K.lookup (He.fAd K (dd "law" s_law).at_) = some ⟨oc, od, .func fd, osl⟩ := by
    obtain ⟨oc, od, _, _, _, _, _, _, _, osl, _, lk, _⟩ := F.ex
    exact ⟨oc, od, osl, lk⟩
  have e := hfa.symm.trans (He.glo_ok X G (c.fact 17 (f := .glo "law") rfl))
  cases e
  refine ⟨fd, fun s v => b s [v] rfl, fun base _ _ => ?_⟩
  have c_need_beats := ok_need_beats (P := P) (w := w) (base := base) D_need_beats B g_MOST_BEATS
  have c_awake_of := ok_awake_of (P := P) (w := w) (base := base) D_awake_of B g_AWAKE
  have c_all_of := ok_all_of (P := P) (w := w) (base := base) D_all_of B g_AWAKE g_ASLEEP
  have c_lacking := ok_lacking D_lacking B c_awake_of
  have c_fewest := ok_fewest D_fewest B c_need_beats c_all_of c_lacking
  have c_beginning := ok_beginning D_beginning B g_AWAKE c_all_of
  have c_paper := ok_paper D_paper B c_fewest c_beginning c_lacking
  have c_shows := ok_shows D_shows B c_need_beats c_beginning c_awake_of
  have c_law_dice := ok_law_dice (P := P) (w := w) (base := base) D_law_dice B
  have c_law_off := ok_law_off (P := P) (w := w) (base := base) D_law_off B
  have c_law_ones := ok_law_ones (P := P) (w := w) (base := base) D_law_ones B
  have c_law_alike := ok_law_alike (P := P) (w := w) (base := base) D_law_alike B 2
  have c_law_all := ok_law_all (P := P) (w := w) (base := base) D_law_all B
  have c_law_apart := ok_law_apart D_law_apart B c_law_ones
  have c_law_lacks := ok_law_lacks D_law_lacks B c_law_apart
  have c_law_shows := ok_law_shows D_law_shows B c_law_all c_law_lacks
  have c_law_spoilt := ok_law_spoilt D_law_spoilt B c_law_off
  have c_law := ok_law D_law B c_law_dice c_law_off c_law_alike c_law_all c_law_lacks c_law_shows c_law_spoilt c_fewest c_paper c_shows
  exact c_law.at_ hfa lk
end Bm
open PySem PySem.W PySem.Calls PyProof.Rows
set_option maxRecDepth 100000 in
set_option maxHeartbeats 0 in
theorem PySem.Challenge.cw_beaconmeet_k07_whole_papers_holds : PySem.Challenge.rw_beaconmeet_k07_whole_papers.Holds := by
  w_on; o_law
  refine HandSHeadRun.head_any (r := OpenLaw.row PySem.Challenge.rw_beaconmeet_k07_whole_papers) (q := view (OpenLaw.row PySem.Challenge.rw_beaconmeet_k07_whole_papers).prog [26]) (H := Bm.hk) (ob := Bm.ob) (M := 3000) (loose := Bm.loose) (d := HandSHeadRun.topDef (OpenLaw.row PySem.Challenge.rw_beaconmeet_k07_whole_papers).prog 26) (kwd := []) Bm.ob_eq
    (by kernel_rfl) (fun s => by kernel_rfl) Bm.run (by kernel_rfl) (by kernel_rfl) (by kernel_rfl) (by rfl) (by first | assumption | decide +kernel) (by decide +kernel) ⟨rfl, rfl, rfl, rfl, rfl, by decide +kernel⟩ ?hw ?hc
  case hw => w_witness2
  case hc =>
    refine L2.walk_ofE (l := PySem.Challenge.rw_beaconmeet_k07_whole_papers) (n := 63) (k := 6) (x := "_law_script") (CX := L2.CX0) rfl (by decide) (by kernel_rfl) ⟨rfl, by decide, by decide⟩ ?F (fun _ _ _ _ z => z)
    intro w mg fa h Y G hmg0
    obtain ⟨K, KX, c⟩ := Y
    have hmg : mg ("law" : PySem.Str) = some (.ref fa) := by
      have e : (HandSHeadRun.topDef (OpenLaw.row PySem.Challenge.rw_beaconmeet_k07_whole_papers).prog 26).name = ("law" : PySem.Str) := by kernel_rfl
      rw [← e]
      exact hmg0
    obtain ⟨fd, hb, hF⟩ := Bm.facts (P := (PySem.Challenge.rw_beaconmeet_k07_whole_papers).prog) (w := w) KX G hmg c
    exact ⟨K, fd, Bm.spLaw K, KX, hb, fun H a ns hl hO hS => Bm.law_in hl hO hS, hF⟩
