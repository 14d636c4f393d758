import PyProof.Rows.All
import Wide.All
import OpenK.AllK
import Wide.FinOn
import PyProof.EqAt
import PyProof.EqKinds
import PyProof.TupleCall
import PyProof.Draws
import KE.KStateDown
import KE.GoesMore
import HandS.ForMost
import HandS.Evl
import HandS.Walk
import HandS.Defaults
import HandS.IsInst
import HandS.Head0
import HandS.Head1
import HandS.Head2
import HandS.HeadEnd
import HandS.HeadHook1
import HandS.HeadHook2
import PySem.Challenge.RW_beaconmeet_k09_whole_none_better
set_option Elab.async false
set_option linter.all false
set_option maxRecDepth 100000
set_option maxHeartbeats 4000000
namespace Bm
/-! ### patterns as lists of truth values -/
/-- awake in beat i, going round -/
def aw (p : List Bool) (i : Nat) : Bool := p.getD (i % p.length) false
/-- the numbers of the beats awake -/
def ones (p : List Bool) : List Nat := (List.range p.length).filter fun i => p.getD i false
/-- a pattern: one to m beats, one awake at least -/
structure Pat (m : Nat) (p : List Bool) : Prop where
  lo : 1 ≤ p.length
  hi : p.length ≤ m
  has : true ∈ p
def met (p q : List Bool) (l : Bool) (x y : Nat) : Bool := aw q y && (aw p x || (l && aw p (x + 1)))
/-- the first moment -/
def first (p q : List Bool) (l : Bool) (a b : Nat) : Option Nat := (List.range (p.length * q.length)).find? fun m => met p q l (a + m) (b + m)

theorem mem_ones {p : List Bool} {i : Nat} : i ∈ ones p ↔ i < p.length ∧ p.getD i false = true := by
  unfold ones
  rw [List.mem_filter, List.mem_range]
theorem aw_iff {p : List Bool} (h : 0 < p.length) (i : Nat) : aw p i = decide (i % p.length ∈ ones p) := by
  have hl : i % p.length < p.length := Nat.mod_lt _ h
  unfold aw
  cases e : p.getD (i % p.length) false with
  | true => rw [decide_eq_true (mem_ones.mpr ⟨hl, e⟩)]
  | false => rw [decide_eq_false]; intro z; rw [(mem_ones.mp z).2] at e; cases e

/-! ### the first of a range -/
theorem find_range_some {n m : Nat} {f : Nat → Bool} (h : (List.range n).find? f = some m) : m < n ∧ f m = true ∧ ∀ i, i < m → f i = false := by
  rw [List.find?_range_eq_some] at h
  obtain ⟨h1, h2, h3⟩ := h
  refine ⟨List.mem_range.mp h2, h1, fun i hi => ?_⟩
  have := h3 i hi
  simpa using this
theorem find_range_none {n : Nat} {f : Nat → Bool} (h : (List.range n).find? f = none) : ∀ i, i < n → f i = false := by
  intro i hi
  have := List.find?_eq_none.mp h i (List.mem_range.mpr hi)
  simpa using this
theorem find_range_is {n m : Nat} {f : Nat → Bool} (h1 : m < n) (h2 : f m = true) (h3 : ∀ i, i < m → f i = false) : (List.range n).find? f = some m := by
  rw [List.find?_range_eq_some]
  exact ⟨h2, List.mem_range.mpr h1, fun i hi => by simp [h3 i hi]⟩
theorem find_range_no {n : Nat} {f : Nat → Bool} (h : ∀ i, i < n → f i = false) : (List.range n).find? f = none := by
  rw [List.find?_eq_none]
  intro i hi
  simp [h i (List.mem_range.mp hi)]
end Bm
namespace Bm
/-! ### what is no pattern -/
def badAt (c i : Nat) : Bool := decide (12 ≤ i) || !(c == 49 || c == 48)
def fault (cs : List Nat) : Option Nat := match (List.range cs.length).find? fun i => badAt (cs.getD i 0) i with
  | some i => some i
  | none => if 49 ∈ cs then none else some cs.length
end Bm
namespace Bm
/-! ### the latest -/
abbrev Row := Option Nat × Nat × Nat
def rowA (p q : List Bool) (l : Bool) (a k : Nat) : List Row := (List.range k).map fun b => (first p q l a b, a, b)
def upto (p q : List Bool) (l : Bool) (a : Nat) : List Row := (List.range a).flatMap fun a' => rowA p q l a' q.length
def rows (p q : List Bool) (l : Bool) : List Row := upto p q l p.length
def valR (r : Row) : Nat := r.1.getD 0
def stp (best : Option Row) (r : Row) : Option Row := match best with
  | none => some r
  | some b => if valR b < valR r then some r else some b
/-- all meet -/
def allMeet (rs : List Row) : Prop := ∀ r ∈ rs, r.1 ≠ none
def worst (p q : List Bool) (l : Bool) : Row := match (rows p q l).find? (fun r => r.1.isNone) with
  | some r => r
  | none => ((rows p q l).foldl stp none).getD (none, 0, 0)
theorem rowA_succ (p q : List Bool) (l : Bool) (a b : Nat) : rowA p q l a (b + 1) = rowA p q l a b ++ [(first p q l a b, a, b)] := by
  unfold rowA
  rw [List.range_succ, List.map_append]
  rfl
theorem upto_succ (p q : List Bool) (l : Bool) (a : Nat) : upto p q l (a + 1) = upto p q l a ++ rowA p q l a q.length := by
  unfold upto
  rw [List.range_succ, List.flatMap_append]
  simp
theorem upto_pre (p q : List Bool) (l : Bool) {a : Nat} (h : a < p.length) : ∃ s, rows p q l = upto p q l a ++ (rowA p q l a q.length ++ s) := by
  have key : ∀ n, a < n → ∃ s, upto p q l n = upto p q l a ++ (rowA p q l a q.length ++ s) := by
    intro n hn
    induction n with
    | zero => omega
    | succ n ih =>
      rw [upto_succ]
      by_cases e : a = n
      · subst e
        exact ⟨[], by simp⟩
      · obtain ⟨s, hs⟩ := ih (by omega)
        exact ⟨s ++ rowA p q l n q.length, by rw [hs]; simp⟩
  exact key p.length h
theorem rowA_pre (p q : List Bool) (l : Bool) (a : Nat) {b k : Nat} (h : b < k) : ∃ s, rowA p q l a k = rowA p q l a b ++ (first p q l a b, a, b) :: s := by
  induction k with
  | zero => omega
  | succ k ih =>
    rw [rowA_succ]
    by_cases e : b = k
    · subst e
      exact ⟨[], rfl⟩
    · obtain ⟨s, hs⟩ := ih (by omega)
      exact ⟨s ++ [(first p q l a k, a, k)], by rw [hs]; simp⟩
theorem find_none_of {pre : List Row} (h : allMeet pre) : pre.find? (fun r => r.1.isNone) = none := by
  rw [List.find?_eq_none]
  intro r hr
  have := h r hr
  cases e : r.1 with
  | none => exact absurd e this
  | some m => simp
/-- the first pair by which they never meet -/
theorem worst_never {p q : List Bool} {l : Bool} {a b : Nat} (ha : a < p.length) (hb : b < q.length) (h1 : allMeet (upto p q l a)) (h2 : allMeet (rowA p q l a b)) (h : first p q l a b = none) : worst p q l = (none, a, b) := by
  obtain ⟨s, hs⟩ := upto_pre p q l ha
  obtain ⟨s2, hs2⟩ := rowA_pre p q l a hb
  have e : (rows p q l).find? (fun r => r.1.isNone) = some (none, a, b) := by
    rw [hs, hs2, List.find?_append, find_none_of h1, List.find?_append, List.find?_append, find_none_of h2, h]
    rfl
  unfold worst
  rw [e]
theorem worst_all {p q : List Bool} {l : Bool} (h : allMeet (rows p q l)) : worst p q l = ((rows p q l).foldl stp none).getD (none, 0, 0) := by
  unfold worst
  rw [find_none_of h]
theorem mem_rows {p q : List Bool} {l : Bool} {r : Row} : r ∈ rows p q l ↔ ∃ a b, a < p.length ∧ b < q.length ∧ r = (first p q l a b, a, b) := by
  unfold rows upto rowA
  rw [List.mem_flatMap]
  constructor
  · rintro ⟨a, ha, h⟩
    obtain ⟨b, hb, e⟩ := List.mem_map.mp h
    exact ⟨a, b, List.mem_range.mp ha, List.mem_range.mp hb, e.symm⟩
  · rintro ⟨a, b, ha, hb, e⟩
    exact ⟨a, List.mem_range.mpr ha, List.mem_map.mpr ⟨b, List.mem_range.mpr hb, e.symm⟩⟩
/-- the fold from a first one on -/
def bestFrom (b : Row) : List Row → Row
  | [] => b
  | r :: rs => bestFrom (if valR b < valR r then r else b) rs
theorem foldl_best : ∀ (rs : List Row) (b : Row), rs.foldl stp (some b) = some (bestFrom b rs)
  | [], _ => rfl
  | r :: rs, b => by
    rw [List.foldl_cons]
    unfold bestFrom
    show rs.foldl stp (if valR b < valR r then some r else some b) = _
    split
    · exact foldl_best rs r
    · exact foldl_best rs b
theorem head_best (M : Nat) : ∀ (rs : List Row) (b : Row), (∀ r ∈ b :: rs, valR r ≤ M) → (∃ r ∈ b :: rs, valR r = M) → ((b :: rs).filter fun r => decide (valR r = M)).head? = some (bestFrom b rs)
  | [], b, _, h => by
    obtain ⟨r, hr, e⟩ := h
    have : r = b := by simpa using hr
    subst this
    simp [e, bestFrom]
  | r :: rs, b, hle, h => by
    unfold bestFrom
    have hb := hle b (by simp)
    have hr := hle r (by simp)
    by_cases c : valR b < valR r
    · rw [if_pos c]
      have nb : ¬ valR b = M := by omega
      rw [List.filter_cons, if_neg (by simpa using nb)]
      refine head_best M rs r (fun x hx => hle x (List.mem_cons_of_mem _ hx)) ?_
      obtain ⟨x, hx, e⟩ := h
      rcases List.mem_cons.mp hx with rfl | hx
      · exact absurd e nb
      · exact ⟨x, hx, e⟩
    · rw [if_neg c]
      have ih := head_best M rs b (fun x hx => hle x (by
        rcases List.mem_cons.mp hx with rfl | hx
        · simp
        · simp [hx])) (by
        obtain ⟨x, hx, e⟩ := h
        rcases List.mem_cons.mp hx with rfl | hx
        · exact ⟨x, by simp, e⟩
        · rcases List.mem_cons.mp hx with rfl | hx
          · exact ⟨b, by simp, by omega⟩
          · exact ⟨x, by simp [hx], e⟩)
      rw [← ih]
      by_cases nb : valR b = M
      · rw [List.filter_cons (x := b) (xs := r :: rs), if_pos (by simpa using nb), List.filter_cons (x := b) (xs := rs), if_pos (by simpa using nb)]
        rfl
      · rw [List.filter_cons (x := b) (xs := r :: rs), if_neg (by simpa using nb), List.filter_cons (x := r), if_neg (by simpa using (show ¬ valR r = M by omega)), List.filter_cons (x := b) (xs := rs), if_neg (by simpa using nb)]
theorem worst_head {p q : List Bool} {l : Bool} {M : Nat} (h : allMeet (rows p q l)) (hle : ∀ r ∈ rows p q l, valR r ≤ M) (hex : ∃ r ∈ rows p q l, valR r = M) : ((rows p q l).filter fun r => decide (valR r = M)).head? = some (worst p q l) := by
  rw [worst_all h]
  cases e : rows p q l with
  | nil =>
    rw [e] at hex
    obtain ⟨r, hr, _⟩ := hex
    cases hr
  | cons b rs =>
    rw [e] at hle hex
    rw [head_best M rs b hle hex, List.foldl_cons]
    show _ = some ((rs.foldl stp (some b)).getD (none, 0, 0))
    rw [foldl_best]
    rfl
/-- what is known of worst -/
theorem worst_mem {p q : List Bool} {l : Bool} (hp : 0 < p.length) (hq : 0 < q.length) : worst p q l ∈ rows p q l := by
  unfold worst
  cases e : (rows p q l).find? (fun r => r.1.isNone) with
  | some r => exact List.mem_of_find?_eq_some e
  | none =>
    show ((rows p q l).foldl stp none).getD (none, 0, 0) ∈ rows p q l
    cases e2 : rows p q l with
    | nil =>
      have : ((first p q l 0 0, 0, 0) : Row) ∈ rows p q l := mem_rows.mpr ⟨0, 0, hp, hq, rfl⟩
      rw [e2] at this
      cases this
    | cons b rs =>
      rw [List.foldl_cons]
      show (rs.foldl stp (some b)).getD (none, 0, 0) ∈ b :: rs
      rw [foldl_best]
      show bestFrom b rs ∈ b :: rs
      have key : ∀ (rs : List Row) (b : Row), bestFrom b rs ∈ b :: rs := by
        intro rs
        induction rs with
        | nil => intro b; simp [bestFrom]
        | cons r rs ih =>
          intro b
          unfold bestFrom
          have := ih (if valR b < valR r then r else b)
          rcases List.mem_cons.mp this with h | h
          · rw [h]
            split <;> simp
          · simp [h]
      exact key rs b
theorem worst_none_iff {p q : List Bool} {l : Bool} (hp : 0 < p.length) (hq : 0 < q.length) : (worst p q l).1 = none ↔ ∃ a b, a < p.length ∧ b < q.length ∧ first p q l a b = none := by
  constructor
  · intro h
    obtain ⟨a, b, ha, hb, e⟩ := mem_rows.mp (worst_mem (l := l) hp hq)
    rw [e] at h
    exact ⟨a, b, ha, hb, h⟩
  · rintro ⟨a, b, ha, hb, h⟩
    unfold worst
    cases e : (rows p q l).find? (fun r => r.1.isNone) with
    | some r =>
      have := List.find?_some e
      show r.1 = none
      simpa using this
    | none =>
      have := List.find?_eq_none.mp e (none, a, b) (mem_rows.mpr ⟨a, b, ha, hb, by rw [h]⟩)
      simp at this
/-- all meet no later than it -/
theorem worst_le {p q : List Bool} {l : Bool} {m : Nat} (hp : 0 < p.length) (hq : 0 < q.length) (h : (worst p q l).1 = some m) {a b : Nat} (ha : a < p.length) (hb : b < q.length) : ∃ k, first p q l a b = some k ∧ k ≤ m := by
  have hall : allMeet (rows p q l) := by
    intro r hr e
    obtain ⟨a, b, ha, hb, rfl⟩ := mem_rows.mp hr
    rw [(worst_none_iff hp hq).mpr ⟨a, b, ha, hb, e⟩] at h
    cases h
  cases e : first p q l a b with
  | none => exact absurd e (hall _ (mem_rows.mpr ⟨a, b, ha, hb, rfl⟩))
  | some k =>
    refine ⟨k, rfl, ?_⟩
    rw [worst_all hall] at h
    have hm : ((first p q l a b, a, b) : Row) ∈ rows p q l := mem_rows.mpr ⟨a, b, ha, hb, rfl⟩
    cases e2 : rows p q l with
    | nil => rw [e2] at hm; cases hm
    | cons r rs =>
      rw [e2] at h hm
      rw [List.foldl_cons] at h
      have h : ((rs.foldl stp (some r)).getD (none, 0, 0)).1 = some m := h
      rw [foldl_best] at h
      have h : (bestFrom r rs).1 = some m := h
      have key : ∀ (rs : List Row) (b : Row), ∀ x ∈ b :: rs, valR x ≤ valR (bestFrom b rs) := by
        intro rs
        induction rs with
        | nil => intro b x hx; have : x = b := by simpa using hx
                 subst this; exact Nat.le_refl _
        | cons r rs ih =>
          intro b x hx
          unfold bestFrom
          have h0 := ih (if valR b < valR r then r else b) _ (List.mem_cons_self ..)
          rcases List.mem_cons.mp hx with rfl | hx
          · refine Nat.le_trans ?_ h0
            split <;> omega
          · rcases List.mem_cons.mp hx with rfl | hx
            · refine Nat.le_trans ?_ h0
              split <;> omega
            · exact ih _ x (by simp [hx])
      have := key rs r _ hm
      unfold valR at this
      rw [h, e] at this
      exact this
theorem worst_at {p q : List Bool} {l : Bool} (hp : 0 < p.length) (hq : 0 < q.length) : ∃ a b, a < p.length ∧ b < q.length ∧ worst p q l = (first p q l a b, a, b) := mem_rows.mp (worst_mem hp hq)
end Bm
namespace Bm
open PySem PySem.Spec PyProof.Rows L2 Evl
/-! ### defs by name -/
structure Cal (P : Program) (w : World) (K : PySem.W.Frag) (mg : PySem.Str → Option Value) (base : Heap) (k : Nat) (x : PySem.Str) (ps : List PySem.Str) (sp : Sp) : Prop where
  ex : ∃ f fd, FnOk P w K mg base CX0 k f fd ps sp ∧ mg x = some (.ref f) ∧ PySem.W.keepIn K (.ref f) = true ∧ Binds K fd ps [] ∧ ∃ oc od osl, K.lookup f = some ⟨oc, od, .func fd, osl⟩
theorem pe_callC {X : Cx} {k j : Nat} {x : PySem.Str} {ps : List PySem.Str} {sp : Sp} {e : Expr} {es : List Expr} {t : TA} {p pos : Pos} (C : Cal X.prog X.w X.K X.mg X.base k x ps sp) (hr : Room j X.A) (hk : k ≤ j) (ha : PA X (e :: es) t) (hg : Gl X x := by rfl)
    (hdb : (x == ("__debug__" : PySem.Str)) = false := by decide) (he : starEach (e :: es) X.env = (false, eval e X.env) :: starEach es X.env := by rfl) (hpl : (backTo pos (starEach es X.env)).any (·.1) = false := by rfl) :
    PE X (.Call (.Name x p) (e :: es) [] pos) (tCall sp [] E0 t) := by
  obtain ⟨f, fd, F, hm, kp, b, _⟩ := C.ex
  exact pe_call F (hr.mono hk) hg hm kp b .nil pass0 ha hdb he hpl
/-- a def of the text as it stands behind the top -/
structure Def1 (K : PySem.W.Frag) (mg : PySem.Str → Option Value) (x : PySem.Str) (st : Stmt) : Prop where
  ex : ∃ f fd, FunD K x x (defArgs st) (defBody st) (defScope st) [] [] f fd ∧ mg x = some (.ref f)
section
variable {P : Program} {w : World} {K : PySem.W.Frag} {mg : PySem.Str → Option Value} {base : Heap}
theorem Def1.cal {x : PySem.Str} {st : Stmt} {N ps : List PySem.Str} {k : Nat} {sp : Sp} (D : Def1 K mg x st) (S : FnScope N ps (defScope st))
    (hb : ∀ (kV doc pm : Value) (an : Option Addr) (cdv ct : Value) (us : List Value), us.length = ps.length → bindArgs (PySem.W.fnOf x x (defArgs st) (defBody st) (defScope st) .none kV doc pm an cdv ct) ⟨us, []⟩ = pure (ps.zip us))
    (len : ∀ vs H Q E, sp vs H Q E → vs.length = ps.length)
    (hbody : ∀ (f : Addr) (cdv : Value) (A : Around) (outer : List Env) (s : Shared) (H : Hp) (vs : List V) (Q : VK) (E : XK), Room k (A.deeper (envOfC x (defScope st) s.heap.objs.size f cdv)) → sp vs H Q E →
      ∃ t, PSs (cxOf CX0 P w K mg base N x (defScope st) f cdv A outer s H E).nox (defBody st) t ∧ t { nx := fun _ H' => Q .non H', rt := Q } (start N vs) H) : Cal P w K mg base (k + 1) x ps sp := by
  obtain ⟨f, fd, F, hm⟩ := D.ex
  refine ⟨f, fd, F.ok S len fun cdv A outer s H vs Q E hr h => ?_, hm, F.kp, F.bindsN hb, ?_⟩
  rotate_left
  · obtain ⟨oc, od, _, _, _, _, _, _, _, osl, _, lk, _⟩ := F.ex
    exact ⟨oc, od, osl, lk⟩
  obtain ⟨t, h1, h2⟩ := hbody f cdv A outer s H vs Q E hr h
  exact ⟨t, PSs.nox h1, h2⟩
theorem Cal.mono {x : PySem.Str} {ps : List PySem.Str} {j k : Nat} {sp : Sp} (C : Cal P w K mg base j x ps sp) (h : j ≤ k) : Cal P w K mg base k x ps sp := by
  obtain ⟨f, fd, F, r⟩ := C.ex
  exact ⟨f, fd, F.mono h, r⟩
theorem Cal.imp {x : PySem.Str} {ps : List PySem.Str} {k : Nat} {sp sp' : Sp} (C : Cal P w K mg base k x ps sp) (h : ∀ vs H Q E, sp' vs H Q E → sp vs H Q E) : Cal P w K mg base k x ps sp' := by
  obtain ⟨f, fd, F, r⟩ := C.ex
  exact ⟨f, fd, F.imp h, r⟩
end
/-- the promise of a def whose object is known -/
theorem Cal.at_ {P : Program} {w : World} {K : PySem.W.Frag} {mg : PySem.Str → Option Value} {base : Heap} {x : PySem.Str} {ps : List PySem.Str} {k : Nat} {sp : Sp} {f : Addr} {fd : FuncData} (C : Cal P w K mg base k x ps sp) (hm : mg x = some (.ref f)) (hl : ∃ oc od osl, K.lookup f = some ⟨oc, od, .func fd, osl⟩) :
    FnOk P w K mg base CX0 k f fd ps sp := by
  obtain ⟨f', fd', F, hm', _, _, oc, od, osl, hl'⟩ := C.ex
  obtain ⟨oc2, od2, osl2, hl⟩ := hl
  have e : f' = f := by
    rw [hm'] at hm
    exact Value.ref.inj (Option.some.inj hm)
  subst e
  rw [hl'] at hl
  have e2 := Option.some.inj hl
  injection e2 with _ _ e3 _
  injection e3 with e4
  subst e4
  exact F
/-- the names that are still the built-in ones -/
structure Bl (mg : PySem.Str → Option Value) : Prop where
  len : mg "len" = none
  range : mg "range" = none
  int : mg "int" = none
  abs : mg "abs" = none
  max : mg "max" = none
  min : mg "min" = none
  sorted : mg "sorted" = none
  isinstance : mg "isinstance" = none
  bool : mg "bool" = none
  str : mg "str" = none
  tuple : mg "tuple" = none
  list : mg "list" = none
  all : mg "all" = none
  enumerate : mg "enumerate" = none
  set : mg "set" = none
/-! ### constants of the module -/
section
variable {X : Cx}
theorem pe_gS {x z : PySem.Str} {pos : Pos} (h : ∃ t, X.mg x = some (.str z t)) (hg : Gl X x := by rfl) (hd : (x == ("__debug__" : PySem.Str)) = false := by decide) : PE X (.Name x pos) (tC (.str z)) := by
  obtain ⟨t, h⟩ := h
  exact pe_glob hg h ⟨t, rfl⟩ hd
theorem pe_gI {x : PySem.Str} {z : Int} {pos : Pos} (h : ∃ t, X.mg x = some (.int z t)) (hg : Gl X x := by rfl) (hd : (x == ("__debug__" : PySem.Str)) = false := by decide) : PE X (.Name x pos) (tC (.int z)) := by
  obtain ⟨t, h⟩ := h
  exact pe_glob hg h ⟨t, rfl⟩ hd
end
/-! ### enumerate(a text) -/
/-- the signs of x, each in a new pair -/
def ItE (x : PySem.Str) : It :=
  ⟨fun i _ => i < x.cps.size, fun i H v H' => ∃ T c, v = .ref T ∧ H T = none ∧ H' = upd H T (.tup [.int (i : Nat), .str ⟨#[c]⟩]) ∧ x.cps[i]? = some c, fun i _ => i = x.cps.size⟩
theorem turn_enumS {P : Program} {w : World} {K : PySem.W.Frag} {elts : List Expr} {kk : Nat} {tpos : Pos} (e it : Addr) (x : PySem.Str) (t : Tok) :
    Turn P w K (.Tuple elts kk tpos) (ItE x) [e, it] e (fun i h => (∃ old, IsEnum h e it ((i : Nat) : Int) old) ∧ h.IsStrIter it (strIterType x) x t i ∧ e ≠ it) where
  mem := by simp
  obj := fun i h st b hb => by
    obtain ⟨⟨old, he⟩, ⟨o, ho, hc, hd⟩, _⟩ := st
    have e' : b = e ∨ b = it := by simpa using hb
    rcases e' with z | z
    · rw [z]; exact ⟨_, he, fun v q => nomatch q⟩
    · rw [z]; exact ⟨o, ho, fun v q => by rw [hd] at q; cases q⟩
  keep := fun i h h' st k => let ⟨⟨old, he⟩, ⟨o, ho, r⟩, hne⟩ := st; ⟨⟨old, k e (by simp) _ he⟩, ⟨o, k it (by simp) o ho, r⟩, hne⟩
  item := by
    intro X hP hw hK hc i pins s σ H E I hf st hg
    subst hP hw hK
    obtain ⟨⟨old, he⟩, hit, hne⟩ := st
    have hel : e < s.heap.objs.size := Heap.lt_size he
    have hil : it < s.heap.objs.size := by obtain ⟨_, q, _⟩ := hit; exact Heap.lt_size q
    have hd : X.A.in1.handled = none := I.ok.hd hc
    have D := Draws.text (prog := X.prog) (w := X.w) (A := X.A.in1) hd it x t
    refine wpAny_pyNext_enum_itemD D he hit hg hne (by simpa using hne) fun u h' tk hu ho hit' hT hsz hk => ?_
    obtain ⟨c, t', hcx, rfl⟩ := hu
    refine ⟨_, rfl, wpAny_letOwnedTupleGo_enum (s := { s with heap := h', toks := tk + 1 }) ho fun h'' he' sb => ?_⟩
    have hT2 : h''.get? s.heap.objs.size = some { cls := .type "tuple", data := .seq #[.int i tk, .str ⟨#[c]⟩ t'] } := (sb.2 _ (Nat.ne_of_gt hel)).trans hT
    have new : ObjOk X.prog X.w (upd H s.heap.objs.size (.tup [.int (i : Nat), .str ⟨#[c]⟩])) h'' s.heap.objs.size (.tup [.int (i : Nat), .str ⟨#[c]⟩]) :=
      ⟨by show 2 ≤ sizeLine; decide, [.int i tk, .str ⟨#[c]⟩ t'], .cons ⟨_, rfl⟩ (.cons ⟨_, rfl⟩ .nil), ⟨_, hT2, rfl, _, rfl⟩⟩
    have I1 : Inv X pins σ (upd H s.heap.objs.size (.tup [.int (i : Nat), .str ⟨#[c]⟩])) { s with heap := h'', toks := tk + 1 } :=
      I.turnedNew (ch := [e, it]) (fun b ob hb q => (sb.2 b (fun z => hb (by simp [z]))).trans (hk b ob (fun z => hb (by simp [z])) (fun z => hb (by simp [z])) q)) hf (Nat.le_refl _) new
    refine ⟨.ref s.heap.objs.size, _, I1, rfl, ⟨_, c, rfl, I.hok.fresh (Nat.le_refl _), rfl, hcx⟩, ⟨⟨.str ⟨#[c]⟩ t', ?_⟩, ?_, hne⟩, fun b hb => ?_⟩
    · have e1 : ((i + 1 : Nat) : Int) = (i : Int) + 1 := by omega
      rw [e1]; exact he'
    · obtain ⟨o, q, r⟩ := hit'
      exact ⟨o, (sb.2 it (Ne.symm hne)).trans q, r⟩
    · have hb' : b < s.heap.objs.size := by
        have e' : b = e ∨ b = it := by simpa using hb
        rcases e' with z | z
        · rw [z]; exact hel
        · rw [z]; exact hil
      rw [upd_ne (Nat.ne_of_lt hb')]
      exact (hf b hb).1
  done := by
    intro X hP hw hK hc i pins s σ H E I hf st hg
    subst hP hw hK
    obtain ⟨⟨old, he⟩, hit, hne⟩ := st
    obtain ⟨f0, f1, f2, f3, f4, f5⟩ := hf it (by simp)
    have hd : X.A.in1.handled = none := I.ok.hd hc
    have D := Draws.text (prog := X.prog) (w := X.w) (A := X.A.in1) hd it x t
    have hg' : i = x.cps.size := hg
    rw [hg'] at hit
    exact wpAny_pyNext_enum_endD D he hit fun h' eb => ⟨rfl, I.turned (t' := s.toks) (fun b o hb q => eb b o hb q) f0 f1 f3 f4 f5⟩
  self := fun A i s Q E st h => let ⟨⟨_, he⟩, _⟩ := st; wpAny_pyIter_enum he h
def iEnumS (ta : TA) : TI := fun σ H R => ta σ H fun vs H1 => ∃ x, vs = [.str x] ∧ R (ItE x) H1
theorem pi_enumS {X : Cx} {e : Expr} {ta : TA} {p pos tpos : Pos} {elts : List Expr} {kk : Nat} (hg : Gl X "enumerate") (hm : X.mg "enumerate" = none) (ha : PA X [e] ta) (hs : starEach [e] X.env = [(false, eval e X.env)] := by rfl) :
    PI X (.Tuple elts kk tpos) (.Call (.Name "enumerate" p) [e] [] pos) (iEnumS ta) := by
  refine ⟨fun pins s σ H R I h => ?_⟩
  refine Call_ (ld_blt I hg hm boot_enumerate (PyProof.Rows.callWith_type1 (thn (ha.run pos pins s σ H _ I h) fun us s1 ⟨vs, H1, I1, r1, q1⟩ => ?_) hs rfl))
  obtain ⟨x, ex, q⟩ := q1
  subst ex
  cases r1 with
  | cons r rr =>
    cases rr
    obtain ⟨t, rfl⟩ := r
    refine call_enumerate_str fun h' he hit hsz hk => wpAny_pyIter_enum he ?_
    have I2 : Inv X pins σ H1 { s1 with heap := h' } := I1.kept (t' := s1.toks) hk
    refine ⟨s1.heap.objs.size + 1, [s1.heap.objs.size + 1, s1.heap.objs.size], _, _, H1, rfl, I2, turn_enumS (s1.heap.objs.size + 1) s1.heap.objs.size x t, ⟨⟨.none, he⟩, hit, Nat.succ_ne_self _⟩, fun b hb => ?_, q⟩
    have e' : b = s1.heap.objs.size + 1 ∨ b = s1.heap.objs.size := by simpa using hb
    have hle : s1.heap.objs.size ≤ b := by
      rcases e' with z | z
      · rw [z]; exact Nat.le_add_right _ _
      · rw [z]; exact Nat.le_refl _
    exact I1.fpOk hle (I1.hok.fresh hle)
theorem walk_enumS {x : PySem.Str} : Walk (ItE x) x.cps.size (fun _ => True) (fun i H v H' => ∃ T c, v = .ref T ∧ H T = none ∧ H' = upd H T (.tup [.int (i : Nat), .str ⟨#[c]⟩]) ∧ x.cps[i]? = some c) :=
  ⟨fun _ _ hi _ => hi, fun _ _ => rfl, fun _ _ _ _ _ _ y => y⟩
section
variable {X : Cx}
theorem pi_listK {tg l : Expr} {tl : TE} (K : PySem.W.Frag) (hK : X.K = K) (hl : PE X l tl) : PI X tg l (iList K tl) := by
  subst hK
  exact pi_list hl
theorem pg_tupK {es : List Expr} {k : Nat} {t : TGs} {n : Nat} {pos : Pos} (K : PySem.W.Frag) (hK : X.K = K) (hc : X.calm = true) (h : PGs X es t)
    (hn : (assignEach es X.env).length = n := by rfl) (hst : (assignEach es X.env).findIdx? (·.1) = none := by rfl) : PG X (.Tuple es k pos) (gTup K n t) := by
  subst hK
  exact pg_tup hc h hn hst
end
end Bm
namespace Bm
open PySem PySem.Spec PyProof.Rows L2 Evl
/-! ### patterns as texts -/
def sg (b : Bool) : Nat := if b then 49 else 48
def txt (p : List Bool) : PySem.Str := ⟨(p.map sg).toArray⟩
theorem txt_cps (p : List Bool) : (txt p).cps.toList = p.map sg := rfl
theorem txt_len (p : List Bool) : (txt p).length = p.length := by
  show (p.map sg).toArray.size = p.length
  simp
theorem txt_size (p : List Bool) : (txt p).cps.size = p.length := txt_len p
theorem txt_at {p : List Bool} {i : Nat} (h : i < p.length) : (p.map sg)[i]? = some (sg (p.getD i false)) := by
  rw [List.getElem?_map, List.getElem?_eq_getElem h, List.getD_eq_getElem?_getD, List.getElem?_eq_getElem h]
  rfl
theorem sg_inj {a b : Bool} (h : sg a = sg b) : a = b := by
  cases a <;> cases b <;> first | rfl | (exact absurd h (by decide))
theorem map_sg_inj : ∀ {p q : List Bool}, p.map sg = q.map sg → p = q
  | [], [], _ => rfl
  | [], _ :: _, h => by simp at h
  | _ :: _, [], h => by simp at h
  | a :: p, b :: q, h => by
    simp only [List.map_cons, List.cons.injEq] at h
    rw [sg_inj h.1, map_sg_inj h.2]
theorem txt_inj {p q : List Bool} (h : txt p = txt q) : p = q := by
  have e := congrArg (fun z : PySem.Str => z.cps.toList) h
  exact map_sg_inj e
theorem one_is (b : Bool) : decide (V.str ⟨#[sg b]⟩ = V.str "1") = b := by
  cases b <;> decide
theorem sg_one : sg true = 49 := rfl
theorem has1 (p : List Bool) : decide (49 ∈ (txt p).cps.toList) = decide (true ∈ p) := by
  rw [txt_cps]
  congr 1
  apply propext
  constructor
  · intro h
    obtain ⟨b, hb, e⟩ := List.mem_map.mp h
    have : b = true := sg_inj (e.trans sg_one.symm)
    rw [← this]; exact hb
  · intro h
    exact List.mem_map.mpr ⟨true, h, rfl⟩
theorem szl {n : Nat} (h : n ≤ 1000) : n ≤ sizeLine := Nat.le_of_lt (small1000 h)
/-! ### more evaluations -/
section
variable {K : PySem.W.Frag} {σ : L2.St} {H H' : Hp} {ta tb tc te : TE} {x y z v : V}
def rLenStr : List V → Hp → VK → Prop := fun xs H Q => ∃ z, xs = [.str z] ∧ z.length ≤ sizeLine ∧ Q (.int z.length) H
theorem ev_lenS {p : List Bool} (ha : Ev ta σ H (.str (txt p))) (h : p.length ≤ 1000) : Ev (tCB rLenStr (tCons ta tNil)) σ H (.int (p.length : Nat)) := fun H1 e Q q =>
  ha H1 e _ fun H2 e2 => ⟨txt p, rfl, by rw [txt_len]; exact szl h, by rw [txt_len]; exact q H2 e2⟩
theorem ev_addN {a b : Nat} (ha : Ev ta σ H (.int (a : Nat))) (hb : Ev tb σ H (.int (b : Nat))) : Ev (tOp (rI0 fun i j => .int (i + j)) ta tb) σ H (.int ((a + b : Nat) : Int)) :=
  ev_is (ev_op ha hb rv_I0) (by show V.int ((a : Int) + (b : Int)) = _; rw [Int.natCast_add])
theorem ev_mulN {a b : Nat} (ha : Ev ta σ H (.int (a : Nat))) (hb : Ev tb σ H (.int (b : Nat))) (h : a ≤ 1000000) : Ev (tOp (rI CMul fun i j => .int (i * j)) ta tb) σ H (.int ((a * b : Nat) : Int)) :=
  ev_is (ev_op ha hb (rv_I (Or.inl ⟨by omega, by omega⟩))) (by show V.int ((a : Int) * (b : Int)) = _; rw [Int.natCast_mul])
theorem ev_modN {a b : Nat} (ha : Ev ta σ H (.int (a : Nat))) (hb : Ev tb σ H (.int (b : Nat))) (h : 0 < b) : Ev (tOp (rI (fun _ j => 0 < j) fun i j => .int (i % j)) ta tb) σ H (.int ((a % b : Nat) : Int)) :=
  ev_is (ev_op ha hb (rv_I (by show (0 : Int) < (b : Int); omega))) (by show V.int ((a : Int) % (b : Int)) = _; rw [Int.natCast_emod])
theorem ev_ixP {p : List Bool} {i : Nat} (ha : Ev ta σ H (.str (txt p))) (hb : Ev tb σ H (.int (i : Nat))) (hi : i < p.length) (hl : p.length ≤ 1000) : Ev (tOp rIxS ta tb) σ H (.str ⟨#[sg (p.getD i false)]⟩) :=
  ev_op ha hb (rv_ixS (by rw [txt_len]; omega) (by rw [txt_cps]; exact atI_nat (txt_at hi)))
theorem ev_is1 {b : Bool} (ha : Ev ta σ H (.str ⟨#[sg b]⟩)) (hb : Ev tb σ H (.str "1")) : Ev (tOp rEq ta tb) σ H (.bl b) :=
  ev_is (ev_op ha hb (rv_eq rfl)) (by rw [one_is])
theorem ev_no1 {b : Bool} (ha : Ev ta σ H (.str ⟨#[sg b]⟩)) (hb : Ev tb σ H (.str "1")) : Ev (tOp rNe ta tb) σ H (.bl (!b)) :=
  ev_is (ev_op ha hb (rv_ne rfl)) (by rw [one_is])
def rSignNot : R2 := fun x y H Q => ∃ (c : Nat) (z : PySem.Str), x = .str ⟨#[c]⟩ ∧ y = .str z ∧ Q (.bl (!decide (c ∈ z.cps.toList))) H
def rSignIn : R2 := fun x y H Q => ∃ (c : Nat) (z : PySem.Str), x = .str ⟨#[c]⟩ ∧ y = .str z ∧ Q (.bl (decide (c ∈ z.cps.toList))) H
theorem ev_no1in {p : List Bool} (ha : Ev ta σ H (.str "1")) (hb : Ev tb σ H (.str (txt p))) : Ev (tOp rSignNot ta tb) σ H (.bl (!decide (true ∈ p))) :=
  ev_op ha hb fun H1 _ _ q => ⟨49, txt p, rfl, rfl, by rw [has1]; exact q H1 (Ex.refl H1)⟩
theorem ev_1in {p : List Bool} (ha : Ev ta σ H (.str "1")) (hb : Ev tb σ H (.str (txt p))) : Ev (tOp rSignIn ta tb) σ H (.bl (decide (true ∈ p))) :=
  ev_op ha hb fun H1 _ _ q => ⟨49, txt p, rfl, rfl, by rw [has1]; exact q H1 (Ex.refl H1)⟩
def rIsN : R2 := fun x y H Q => y = .non ∧ Q (.bl (decide (x = .non))) H
def rNotN : R2 := fun x y H Q => y = .non ∧ Q (.bl (!decide (x = .non))) H
theorem ev_isN (ha : Ev ta σ H x) : Ev (tOp rIsN ta (tC .non)) σ H (.bl (decide (x = .non))) :=
  ev_op ha ev_c fun H1 _ _ q => ⟨rfl, q H1 (Ex.refl H1)⟩
theorem ev_notN (ha : Ev ta σ H x) : Ev (tOp rNotN ta (tC .non)) σ H (.bl (!decide (x = .non))) :=
  ev_op ha ev_c fun H1 _ _ q => ⟨rfl, q H1 (Ex.refl H1)⟩
/-- an optional moment as a value -/
def oV : Option Nat → V
  | none => .non
  | some m => .int (m : Nat)
theorem oV_is (o : Option Nat) : decide (oV o = .non) = o.isNone := by
  cases o <;> rfl
/-! ### loops over enumerate(text) -/
theorem s_forES {ta : TA} {s : PySem.Str} {g : TG} {tu : TS} {D : Ends} (h : EvA ta σ H [.str s]) (Pv : Nat → L2.St → Hp → Prop) (h0 : ∀ H1, Ex H H1 → Pv 0 σ H1)
    (hs : ∀ i T c σ' H', s.cps[i]? = some c → Pv i σ' H' → H' T = none → g (.ref T) σ' (upd H' T (.tup [.int (i : Nat), .str ⟨#[c]⟩])) fun σ2 H2 => tu { D with nx := Pv (i + 1), ct := Pv (i + 1), bk := D.nx } σ2 H2)
    (hd : ∀ σ' H', Pv s.cps.size σ' H' → D.nx σ' H') : tFor (iEnumS ta) g tu D σ H :=
  h H (Ex.refl H) _ fun H1 e => ⟨s, rfl, for_it walk_enumS Pv (h0 H1 e) (fun _ _ _ _ _ => trivial) (fun i v σ' H' H2 _ p y => by
    obtain ⟨T, c, rfl, hT, rfl, hc⟩ := y
    exact hs i T c σ' H' hc p hT) hd⟩
theorem g_two {T : Addr} {x1 x2 : V} {i j : Nat} {Q : L2.St → Hp → Prop} (h : Q ((σ.set i (some x1)).set j (some x2)) (upd H T (.tup [x1, x2]))) :
    gTup K 2 (gCons (gName i) (gCons (gName j) gNil)) (.ref T) σ (upd H T (.tup [x1, x2])) Q :=
  ⟨T, [x1, x2], rfl, .inl (.inl upd_same), rfl, x1, [x2], rfl, x2, [], rfl, rfl, h⟩
theorem fault_txt {p : List Bool} (h : Pat 12 p) : fault (txt p).cps.toList = none := by
  have hn : (List.range (p.map sg).length).find? (fun i => badAt ((p.map sg).getD i 0) i) = none := find_range_no fun i hi => by
    rw [List.length_map] at hi
    have hh := h.hi
    have e : (p.map sg).getD i 0 = sg (p.getD i false) := by
      rw [List.getD_eq_getElem?_getD, txt_at hi]
      rfl
    rw [e]
    unfold badAt
    rw [decide_eq_false (by omega)]
    cases p.getD i false <;> rfl
  rw [txt_cps]
  unfold fault
  rw [hn]
  show (if 49 ∈ p.map sg then none else some (p.map sg).length) = none
  exact if_pos (List.mem_map.mpr ⟨true, h.has, rfl⟩)
/-- all but what stands at D is as it was -/
def ExB (D : Addr) (H H' : Hp) : Prop := ∀ a o, a ≠ D → H a = some o → H' a = some o
theorem Ex.b {D : Addr} (e : Ex H H') : ExB D H H' := fun a o _ h => e a o h
theorem ExB.refl {D : Addr} : ExB D H H := fun _ _ _ h => h
theorem ExB.trans {D : Addr} {H1 H2 : Hp} (a : ExB D H H1) (b : ExB D H1 H2) : ExB D H H2 := fun x o n h => b x o n (a x o n h)
theorem ExB.upd {D : Addr} {o : HO} : ExB D H (upd H D o) := fun a o n h => by rw [upd_ne n]; exact h
/-- the dice stand at D, all else that G tells stands -/
structure DD (D : Addr) (G H : Hp) : Prop where
  no : G D = none
  ex : Ex G H
  at_ : ∃ ds : List Int, 2 ≤ ds.length ∧ H D = some (.lst (ds.map V.int))
theorem DD.b {D : Addr} {G : Hp} {ds : List Int} (d : DD D G H) (e : ExB D H H') (h2 : 2 ≤ ds.length) (h : H' D = some (.lst (ds.map V.int))) : DD D G H' :=
  ⟨d.no, fun a o q => e a o (ne_of_none q d.no) (d.ex a o q), ds, h2, h⟩
theorem DD.up {D : Addr} {G : Hp} (d : DD D G H) (e : Ex H H') : DD D G H' := by
  obtain ⟨ds, h2, h⟩ := d.at_
  exact d.b (Ex.b e) h2 (e _ _ h)
/-- what stands besides the dice -/
def off_ (H : Hp) (D : Addr) : Hp := fun a => if a = D then none else H a
theorem DD.all {D : Addr} {G : Hp} (d : DD D G H) : DD D (off_ H D) H ∧ Ex G (off_ H D) := by
  refine ⟨⟨by unfold off_; rw [if_pos rfl], fun a o q => ?_, d.at_⟩, fun a o q => ?_⟩
  · unfold off_ at q
    split at q
    · cases q
    · exact q
  · unfold off_
    rw [if_neg (ne_of_none q d.no)]
    exact d.ex a o q
theorem el_cat {xs ys : List V} (ha : EvL ta σ H xs) (hb : EvL tb σ H ys) (hz : xs.length + ys.length ≤ 100000) : EvL (tOp rCat ta tb) σ H (xs ++ ys) := fun H1 e Q q =>
  ha H1 e _ fun p H2 hp e2 h2 => hb H2 (e.trans e2) _ fun p' H3 hp' e3 h3 => ⟨p, p', xs, ys, rfl, rfl, e3 p _ h2, h3, sz_of hz, fun l hl => q l _ (fresh_back (e2.trans e3) hl) ((e2.trans e3).trans (Ex.new hl)) upd_same⟩
theorem ev_cbL {r : List V → Hp → VK → Prop} {xs : List V} (ha : EvL ta σ H xs) (hr : ∀ p H1, H1 p = some (.lst xs) → Ex H H1 → RC r [.ref p] H1 z) : Ev (tCB r (tCons ta tNil)) σ H z := fun H1 e Q q =>
  ha H1 e _ fun p H2 hp e2 h2 => hr p H2 h2 (e.trans e2) H2 (Ex.refl H2) Q fun H3 e3 => q H3 (e2.trans e3)
/-! ### readings where the heap changes -/
theorem r_op {r : R2} {Q : VK} (ha : Ev ta σ H x) (hb : ∀ H1, Ex H H1 → tb σ H1 fun y H2 => r x y H2 Q) : tOp r ta tb σ H Q := ha H (Ex.refl H) _ hb
theorem r_opc {r : R2} {Q : VK} {c : V} (ha : ta σ H fun x H1 => r x c H1 Q) : tOp r ta (tC c) σ H Q := ha
theorem r_op2 {r : R2} {Q : VK} (ha : ta σ H fun x H1 => tb σ H1 fun y H2 => r x y H2 Q) : tOp r ta tb σ H Q := ha
theorem r_cb1 {r : List V → Hp → VK → Prop} {Q : VK} (ha : ta σ H fun x H1 => r [x] H1 Q) : tCB r (tCons ta tNil) σ H Q := ha
theorem r_call {sp : Sp} {E : XK} {ta : TA} {vs : List V} {Q : VK} (h : EvA ta σ H vs) (hs : ∀ H1, Ex H H1 → sp (vs ++ []) H1 Q E) : tCall sp [] E ta σ H Q := h H (Ex.refl H) _ hs
theorem r_call2 {sp : Sp} {E : XK} {Q : VK} (h : ta σ H fun x H1 => tb σ H1 fun y H2 => sp [x, y] H2 Q E) : tCall sp [] E (tCons ta (tCons tb tNil)) σ H Q := h
theorem r_asg {i : Nat} {D : Ends} (h : te σ H fun x H1 => D.nx (σ.set i (some x)) H1) : tAsg te (gName i) D σ H := h
theorem r_qasg {i : Nat} {D : Ends} {tz : TS} (h : te σ H fun x H1 => tz D (σ.set i (some x)) H1) : tSeq (tAsg te (gName i)) tz D σ H := h
theorem r_qdrop {D : Ends} {tz : TS} (h : te σ H fun x H1 => tz D σ H1) : tSeq (tDrop te) tz D σ H := h
theorem r_qpar {i j : Nat} {D : Ends} {tz : TS} (h : ta σ H fun x H1 => tb σ H1 fun y H2 => ∃ v w, [x, y] = [v, w] ∧ tz D ((σ.set i (some v)).set j (some w)) H2) : tSeq (tPar i j (tCons ta (tCons tb tNil))) tz D σ H := h
theorem r_par {i j : Nat} {D : Ends} (h : ta σ H fun x H1 => tb σ H1 fun y H2 => ∃ v w, [x, y] = [v, w] ∧ D.nx ((σ.set i (some v)).set j (some w)) H2) : tPar i j (tCons ta (tCons tb tNil)) D σ H := h
theorem r_ret {D : Ends} (h : te σ H D.rt) : tRet te D σ H := h
theorem r_if {t : TT} {D : Ends} {tu tw : TS} (h : t σ H fun b H1 => if b = true then tu D σ H1 else tw D σ H1) : tIfS t tu tw D σ H := h
theorem r_qif {t : TT} {D : Ends} {tu tw tz : TS} (h : t σ H fun b H1 => if b = true then tu { D with nx := tz D } σ H1 else tw { D with nx := tz D } σ H1) : tSeq (tIfS t tu tw) tz D σ H := h
theorem r_test {Q : Bool → Hp → Prop} (h : te σ H fun x H1 => ∃ k, x = .bl k ∧ Q k H1) : tTest te σ H Q := h
theorem r_B {Q : Bool → Hp → Prop} (h : te σ H fun x H1 => ∃ k, x = .bl k ∧ Q k H1) : tB te σ H Q := h
theorem r_yes {Q1 : VK} {Q2 : Hp → Prop} (h : te σ H Q1) : tYes σ H (fun b H3 => if b = true then te σ H3 Q1 else Q2 H3) := by
  show if true = true then te σ H Q1 else Q2 H
  exact iteT h
/-! ### isinstance -/
theorem ty_l {a : Addr} {xs : List V} (h : SqL K H a xs) : TyX K H (.ref a) (.type "list") := by
  rcases h with (h | ⟨o, h⟩) | ⟨o, _, _, h1, h2, _⟩
  · exact .base (.lst h)
  · exact .base (.frz h)
  · exact .kList h1 h2
theorem ty_t {a : Addr} {xs : List V} (h : SqT K H a xs) : TyX K H (.ref a) (.type "tuple") := by
  rcases h with (h | ⟨o, h⟩) | ⟨o, _, _, h1, h2, _⟩
  · exact .base (.tup h)
  · exact .fTuple h
  · exact .kTuple h1 h2
theorem ev_isi {a b : String} {r : Bool} (ha : Ev ta σ H x) (ht : ∀ H1, Ex H H1 → TyX K H1 x (.type a)) (hk : kitB a b = some r) : Ev (tCB (rIsi K) (tCons ta (tCons (tC (.ty b)) tNil))) σ H (.bl r) := fun H1 e Q q =>
  ha H1 e _ fun H2 e2 => ⟨x, .ty b, .type a, .type b, r, rfl, .ty b, ht H2 (e.trans e2), kit_ty hk, q H2 e2⟩
/-- v and u are the same data, n deep -/
def sc1 : V → Bool
  | .non => true
  | .bl _ => true
  | .int _ => true
  | .str _ => true
  | _ => false
def Al (K : PySem.W.Frag) (H : Hp) : Nat → V → V → Prop
  | 0, v, u => v = u ∧ sc1 v = true
  | n + 1, v, u => (v = u ∧ sc1 v = true) ∨ ∃ a b xs ys, v = .ref a ∧ u = .ref b ∧ ((SqL K H a xs ∧ SqL K H b ys) ∨ (SqT K H a xs ∧ SqT K H b ys)) ∧ xs.length = ys.length ∧ xs.length ≤ 40000 ∧
      ∀ (i : Nat) x y, xs[i]? = some x → ys[i]? = some y → Al K H n x y
theorem Al.up (e : Ex H H') : ∀ {n : Nat} {v u : V}, Al K H n v u → Al K H' n v u
  | 0, _, _, h => h
  | n + 1, _, _, h => by
    rcases h with h | ⟨a, b, xs, ys, e1, e2, h3, h4, h5, h6⟩
    · exact .inl h
    · refine .inr ⟨a, b, xs, ys, e1, e2, ?_, h4, h5, fun i x y hx hy => Al.up e (h6 i x y hx hy)⟩
      rcases h3 with ⟨p, q⟩ | ⟨p, q⟩
      · exact .inl ⟨ex_l e p, ex_l e q⟩
      · exact .inr ⟨ex_t e p, ex_t e q⟩
theorem al_sc {n : Nat} (h : sc1 v = true) : Al K H n v v := by
  cases n with
  | zero => exact ⟨rfl, h⟩
  | succ n => exact .inl ⟨rfl, h⟩
/-! ### texts -/
theorem str_ext {a b : PySem.Str} (h : a.cps.toList = b.cps.toList) : a = b := by
  obtain ⟨⟨x⟩⟩ := a
  obtain ⟨⟨y⟩⟩ := b
  have h : x = y := h
  rw [h]
theorem joinL_nil : ∀ ps : List (List Nat), TL.joinL [] ps = ps.flatten
  | [] => rfl
  | [p] => by simp [TL.joinL]
  | p :: q :: r => by
    show p ++ ([] ++ TL.joinL [] (q :: r)) = _
    rw [joinL_nil (q :: r)]
    rfl
theorem flat_one : ∀ p : List Bool, (p.map fun b => [sg b]).flatten = p.map sg
  | [] => rfl
  | b :: p => by
    show [sg b] ++ (p.map fun b => [sg b]).flatten = sg b :: p.map sg
    rw [flat_one p]
    rfl
theorem join_txt (p : List Bool) : Txt.join "" (p.map fun b => (⟨#[sg b]⟩ : PySem.Str)) = txt p := by
  apply str_ext
  rw [TL.join_eq]
  refine (TL.tl_join "" _).trans ?_
  show TL.joinL [] _ = p.map sg
  rw [joinL_nil, List.map_map, ← flat_one]
  rfl
theorem txt_app (p q : List Bool) : txt p ++ txt q = txt (p ++ q) := by
  apply str_ext
  show ((txt p).cps ++ (txt q).cps).toList = (p ++ q).map sg
  rw [Array.toList_append, List.map_append]
  rfl
theorem cut_drop (p : List Bool) (k : Nat) : cutS (txt p) (some (k : Nat)) none = txt (p.drop k) := by
  apply str_ext
  show ((p.map sg).drop (HT.sIx (txt p).length 0 (some (k : Nat)))).take (HT.sIx (txt p).length (txt p).length none - HT.sIx (txt p).length 0 (some (k : Nat))) = (p.drop k).map sg
  rw [txt_len, show HT.sIx p.length 0 (some ((k : Nat) : Int)) = min k p.length from HT.sIx_nat _ _ _, HT.sIx_none, ← List.map_drop, ← List.map_take]
  congr 1
  rw [List.take_of_length_le (by rw [List.length_drop]; exact Nat.le_refl _)]
  by_cases h : k ≤ p.length
  · rw [Nat.min_eq_left h]
  · rw [Nat.min_eq_right (by omega), List.drop_length, List.drop_eq_nil_of_le (by omega)]
theorem cut_take (p : List Bool) (k : Nat) : cutS (txt p) none (some (k : Nat)) = txt (p.take k) := by
  apply str_ext
  show ((p.map sg).drop (HT.sIx (txt p).length 0 none)).take (HT.sIx (txt p).length (txt p).length (some (k : Nat)) - HT.sIx (txt p).length 0 none) = (p.take k).map sg
  rw [txt_len, show HT.sIx p.length p.length (some ((k : Nat) : Int)) = min k p.length from HT.sIx_nat _ _ _, HT.sIx_none, List.drop_zero, Nat.sub_zero, ← List.map_take]
  congr 1
  by_cases h : k ≤ p.length
  · rw [Nat.min_eq_left h]
  · rw [Nat.min_eq_right (by omega), List.take_length, List.take_of_length_le (by omega)]
def rAddS : R2 := fun x y H Q => ∃ i j, x = .str i ∧ y = .str j ∧ i.length + j.length ≤ sizeLine ∧ Q (.str (i ++ j)) H
theorem ev_addS {p q : List Bool} (ha : Ev ta σ H (.str (txt p))) (hb : Ev tb σ H (.str (txt q))) (hz : p.length + q.length ≤ 1000) : Ev (tOp rAddS ta tb) σ H (.str (txt (p ++ q))) :=
  ev_op ha hb fun H1 _ _ q' => ⟨txt p, txt q, rfl, rfl, by rw [txt_len, txt_len]; exact szl hz, by rw [txt_app]; exact q' H1 (Ex.refl H1)⟩
theorem ev_drop {p : List Bool} {k : Nat} (ha : Ev ta σ H (.str (txt p))) (hb : Ev tb σ H (.int (k : Nat))) (hz : p.length ≤ 1000) : Ev (tSl rSlS ta (tPart tb) tNoPart) σ H (.str (txt (p.drop k))) := fun H1 e Q q =>
  ha H1 e _ fun H2 e2 => hb H2 (e.trans e2) _ fun H3 e3 => ⟨_, rfl, txt p, rfl, by rw [txt_len]; exact szl hz, by rw [cut_drop]; exact q H3 (e2.trans e3)⟩
theorem ev_take {p : List Bool} {k : Nat} (ha : Ev ta σ H (.str (txt p))) (hb : Ev tb σ H (.int (k : Nat))) (hz : p.length ≤ 1000) : Ev (tSl rSlS ta tNoPart (tPart tb)) σ H (.str (txt (p.take k))) := fun H1 e Q q =>
  ha H1 e _ fun H2 e2 => hb H2 (e.trans e2) _ fun H3 e3 => ⟨_, rfl, txt p, rfl, by rw [txt_len]; exact szl hz, by rw [cut_take]; exact q H3 (e2.trans e3)⟩
theorem txt1 : ("1" : PySem.Str) = txt [true] := rfl
theorem txt0 : ("0" : PySem.Str) = txt [false] := rfl
end
/-- one sign, so many times -/
def rRepS : R2 := fun x y H Q => ∃ (c n : Nat), x = .str ⟨#[c]⟩ ∧ y = .int (n : Nat) ∧ n ≤ 1000 ∧ Q (.str ⟨(List.replicate n c).toArray⟩) H
theorem rep_fold (c : Nat) : ∀ (n : Nat) (acc : Array Nat), ((List.replicate n (#[c] : Array Nat)).foldl (· ++ ·) acc).toList = acc.toList ++ List.replicate n c
  | 0, acc => by simp
  | n + 1, acc => by
    rw [List.replicate_succ, List.foldl_cons, rep_fold c n, List.replicate_succ]
    simp
theorem op_rep_str {X : Cx} : OpR X (binaryOp .Mult) rRepS := by
  intro pins s σ H x y v u Q I rx ry h
  obtain ⟨c, n, rfl, rfl, hn, q⟩ := h
  obtain ⟨t, rfl⟩ := rx
  obtain ⟨t', rfl⟩ := ry
  have hsz : (1 : Nat) ≤ sizeLine := by decide
  have hl1 : (⟨#[c]⟩ : PySem.Str).length = 1 := rfl
  refine PySem.P.mul_str ?_ ?_ ?_ ?_
  · rw [decide_eq_false (by omega), decide_eq_false (by omega)]
    rfl
  · intro h1 _
    rw [hl1]
    intro h2
    have h3 : ((2 : Int) ^ 63 - 1) / (n : Int) ≥ 1 := (Int.le_ediv_iff_mul_le (by omega)).mpr (by omega)
    omega
  · intro h1 _
    show decide ((⟨#[c]⟩ : PySem.Str).length * ((n : Int)).toNat > sizeLine) = false
    rw [hl1, Nat.one_mul, Int.toNat_natCast]
    exact decide_eq_false (Nat.not_lt.mpr (szl hn))
  · by_cases h0 : n = 0
    · subst h0
      rw [if_pos (by decide)]
      exact ⟨by decide, ⟨.str ⟨#[]⟩, H, I.tok _, ⟨_, rfl⟩, q⟩⟩
    · rw [if_neg (by omega)]
      by_cases h1 : n = 1
      · subst h1
        rw [if_pos (by simp)]
        exact ⟨.str ⟨#[c]⟩, H, I, ⟨_, rfl⟩, q⟩
      · have hb : (((n : Int) == 1) || (⟨#[c]⟩ : PySem.Str).length == 0) = false := by
          rw [hl1]
          simp
          omega
        rw [if_neg (by rw [hb]; exact Bool.false_ne_true)]
        have e : (⟨(List.replicate ((n : Int)).toNat (⟨#[c]⟩ : PySem.Str).cps).foldl (· ++ ·) #[]⟩ : PySem.Str) = ⟨(List.replicate n c).toArray⟩ := by
          apply str_ext
          rw [Int.toNat_natCast]
          show ((List.replicate n (#[c] : Array Nat)).foldl (· ++ ·) #[]).toList = List.replicate n c
          rw [rep_fold]
          rfl
        rw [e]
        refine ⟨?_, ⟨.str ⟨(List.replicate n c).toArray⟩, H, I.tok _, ⟨_, rfl⟩, q⟩⟩
        show (List.replicate n c).toArray.size ≤ sizeLine
        rw [List.size_toArray, List.length_replicate]
        exact szl hn
theorem rep_txt (n : Nat) (b : Bool) : (⟨(List.replicate n (sg b)).toArray⟩ : PySem.Str) = txt (List.replicate n b) := by
  unfold txt
  rw [List.map_replicate]
theorem ev_repS {σ : L2.St} {H : Hp} {ta tb : TE} {b : Bool} {n : Nat} (ha : Ev ta σ H (.str (txt [b]))) (hb : Ev tb σ H (.int (n : Nat))) (hn : n ≤ 1000) : Ev (tOp rRepS ta tb) σ H (.str (txt (List.replicate n b))) :=
  ev_op ha hb fun H1 _ _ q' => ⟨sg b, n, rfl, rfl, hn, by rw [rep_txt]; exact q' H1 (Ex.refl H1)⟩
/-! ### the beats awake, as values -/
def onesV (p : List Bool) : List V := (ones p).map fun i => V.int (i : Nat)
theorem ones_given (p : List Bool) : given p.length (fun i => p.getD i false) (fun i => .int (i : Nat)) = onesV p := rfl
def spOnes : Sp := fun vs H Q _ => ∃ p : List Bool, vs = [.str (txt p)] ∧ p.length ≤ 1000 ∧ RetL (onesV p) H Q
theorem in_onesV {p : List Bool} (h : 0 < p.length) (i : Nat) : inV (.int ((i % p.length : Nat) : Int)) (onesV p) = aw p i := by
  rw [aw_iff h]
  unfold inV onesV
  rw [List.any_map]
  have e : ∀ j : Nat, ((fun y => eqV y (.int ((i % p.length : Nat) : Int))) ∘ fun j : Nat => V.int (j : Nat)) j = decide (j = i % p.length) := by
    intro j
    show decide (((j : Nat) : Int) = ((i % p.length : Nat) : Int)) = _
    exact decide_eq_decide.mpr (by omega)
  rw [List.any_eq]
  refine decide_eq_decide.mpr ?_
  constructor
  · rintro ⟨j, hj, h2⟩
    rw [e j] at h2
    rw [← of_decide_eq_true h2]
    exact hj
  · intro h2
    exact ⟨_, h2, by rw [e]; exact decide_eq_true rfl⟩
theorem onesV_flat (p : List Bool) : (onesV p).all flatV = true := by
  unfold onesV
  rw [List.all_map, List.all_eq_true]
  intro _ _
  rfl
theorem onesV_len (p : List Bool) : (onesV p).length ≤ p.length := by
  unfold onesV ones
  rw [List.length_map]
  have := List.length_filter_le (fun i => p.getD i false) (List.range p.length)
  rw [List.length_range] at this
  exact this
theorem DD.set {D : Addr} {G H : Hp} {p : Addr} {o : HO} (d : DD D G H) (hp : G p = none) (hD : p ≠ D) : DD D G (upd H p o) := by
  obtain ⟨ds, h2, h⟩ := d.at_
  exact ⟨d.no, fun a u q => by rw [upd_ne (ne_of_none q hp)]; exact d.ex a u q, ds, h2, by rw [upd_ne hD.symm]; exact h⟩
theorem DD.ne {D : Addr} {G H : Hp} {p : Addr} (d : DD D G H) (hp : H p = none) : p ≠ D := by
  obtain ⟨ds, _, h⟩ := d.at_
  exact (ne_of_none h hp).symm
end Bm
namespace Bm
open PySem PySem.Spec PyProof.Rows L2 Evl
/-! ### cells: a plain value, or a tuple of plain values -/
inductive Cel where
  | v (x : V)
  | t (xs : List V)
def Is (K : PySem.W.Frag) (H : Hp) (v : V) : Cel → Prop
  | .v x => v = x
  | .t xs => ∃ a, v = .ref a ∧ SqT K H a xs
section
variable {K : PySem.W.Frag} {σ : L2.St} {H H' H1 H2 : Hp} {ta tb te tl : TE} {t : TT} {x y z v : V} {c : Cel}
theorem Is.up (h : Is K H v c) (e : Ex H H') : Is K H' v c := by
  cases c with
  | v x => exact h
  | t xs =>
    obtain ⟨a, h1, h2⟩ := h
    exact ⟨a, h1, ex_t e h2⟩
/-- all but lists is as it was -/
def ExT (H H' : Hp) : Prop := ∀ a xs, (H a = some (.tup xs) → H' a = some (.tup xs)) ∧ ∀ o, H a = some (.frz o (.tup xs)) → H' a = some (.frz o (.tup xs))
theorem Ex.toT (e : Ex H H') : ExT H H' := fun a xs => ⟨fun h => e _ _ h, fun o h => e _ _ h⟩
theorem ExB.toT {D : Addr} {l : List V} (e : ExB D H H') (hD : H D = some (.lst l)) : ExT H H' := fun a xs =>
  ⟨fun h => e _ _ (fun z => by rw [z, hD] at h; cases h) h, fun o h => e _ _ (fun z => by rw [z, hD] at h; cases h) h⟩
theorem ExT.upd {D : Addr} {l : List V} {o : HO} (hD : H D = some (.lst l)) : ExT H (upd H D o) := ExB.toT ExB.upd hD
theorem Is.ut (h : Is K H v c) (e : ExT H H') : Is K H' v c := by
  cases c with
  | v x => exact h
  | t xs =>
    obtain ⟨a, h1, h2⟩ := h
    refine ⟨a, h1, ?_⟩
    rcases h2 with (h | ⟨o, h⟩) | h
    · exact .inl (.inl ((e a xs).1 h))
    · exact .inl (.inr ⟨o, (e a xs).2 o h⟩)
    · exact .inr h
abbrev IsAll (K : PySem.W.Frag) (H : Hp) : List V → List Cel → Prop := Paired (Is K H)
theorem IsAll.up {xs : List V} {cs : List Cel} (h : IsAll K H xs cs) (e : Ex H H') : IsAll K H' xs cs := Paired.mapP h fun _ _ q => q.up e
theorem IsAll.ut {xs : List V} {cs : List Cel} (h : IsAll K H xs cs) (e : ExT H H') : IsAll K H' xs cs := Paired.mapP h fun _ _ q => q.ut e
theorem pr_get {α β : Type} {F : α → β → Prop} : ∀ {xs : List α} {ys : List β} {i : Nat} {x : α}, Paired F xs ys → xs[i]? = some x → ∃ y, ys[i]? = some y ∧ F x y
  | _, _, _, _, .nil, e => by simp at e
  | _, _, 0, _, .cons r _, e => by simp at e; subst e; exact ⟨_, rfl, r⟩
  | _, _, i + 1, x, .cons _ t, e => by
    obtain ⟨u, h1, h2⟩ := pr_get (i := i) (x := x) t (by simpa using e)
    exact ⟨u, by simpa using h1, h2⟩
theorem pr_get' {α β : Type} {F : α → β → Prop} : ∀ {xs : List α} {ys : List β} {i : Nat} {y : β}, Paired F xs ys → ys[i]? = some y → ∃ x, xs[i]? = some x ∧ F x y
  | _, _, _, _, .nil, e => by simp at e
  | _, _, 0, _, .cons r _, e => by simp at e; subst e; exact ⟨_, rfl, r⟩
  | _, _, i + 1, x, .cons _ t, e => by
    obtain ⟨u, h1, h2⟩ := pr_get' (i := i) (y := x) t (by simpa using e)
    exact ⟨u, by simpa using h1, h2⟩
theorem pr_len {α β : Type} {F : α → β → Prop} {xs : List α} {ys : List β} (h : Paired F xs ys) : xs.length = ys.length := Paired.length h
theorem pr_app {α β : Type} {F : α → β → Prop} : ∀ {xs xs' : List α} {ys ys' : List β}, Paired F xs ys → Paired F xs' ys' → Paired F (xs ++ xs') (ys ++ ys')
  | _, _, _, _, .nil, h => h
  | _, _, _, _, .cons r t, h => .cons r (pr_app t h)
theorem pr_vals : ∀ {xs ys : List V}, Paired (Is K H) xs (ys.map .v) → xs = ys
  | _, [], h => by cases h; rfl
  | _, y :: ys, h => by
    cases h with
    | cons r t =>
      rw [pr_vals t]
      exact congrArg (· :: ys) r
theorem vals_pr : ∀ ys : List V, Paired (Is K H) ys (ys.map .v)
  | [] => .nil
  | y :: ys => .cons rfl (vals_pr ys)
/-- evaluates to a cell; to a new list of cells -/
def EvC (K : PySem.W.Frag) (te : TE) (σ : L2.St) (H : Hp) (c : Cel) : Prop := ∀ H1, Ex H H1 → ∀ Q : VK, (∀ v H2, Ex H1 H2 → Is K H2 v c → Q v H2) → te σ H1 Q
def EvN (K : PySem.W.Frag) (te : TE) (σ : L2.St) (H : Hp) (cs : List Cel) : Prop := ∀ H1, Ex H H1 → ∀ Q : VK, (∀ p xs H2, H1 p = none → Ex H1 H2 → H2 p = some (.lst xs) → IsAll K H2 xs cs → Q (.ref p) H2) → te σ H1 Q
def RetC (K : PySem.W.Frag) (c : Cel) (H : Hp) (Q : VK) : Prop := ∀ v H2, Ex H H2 → Is K H2 v c → Q v H2
def RetN (K : PySem.W.Frag) (cs : List Cel) (H : Hp) (Q : VK) : Prop := ∀ p xs H2, H p = none → Ex H H2 → H2 p = some (.lst xs) → IsAll K H2 xs cs → Q (.ref p) H2
theorem EvC.mono (h : EvC K te σ H c) (e : Ex H H') : EvC K te σ H' c := fun H1 a Q q => h H1 (e.trans a) Q q
theorem EvN.mono {cs : List Cel} (h : EvN K te σ H cs) (e : Ex H H') : EvN K te σ H' cs := fun H1 a Q q => h H1 (e.trans a) Q q
theorem ec_ev (h : Ev te σ H x) : EvC K te σ H (.v x) := fun H1 e Q q => h H1 e Q fun H2 e2 => q x H2 e2 rfl
theorem ev_ec (h : EvC K te σ H (.v x)) : Ev te σ H x := fun H1 e Q q => h H1 e Q fun v H2 e2 i => by
  have i : v = x := i
  rw [i]
  exact q H2 e2
theorem en_el {xs : List V} (h : EvL te σ H xs) : EvN K te σ H (xs.map .v) := fun H1 e Q q => h H1 e Q fun p H2 hp e2 h2 => q p xs H2 hp e2 h2 (vals_pr xs)
theorem el_en {xs : List V} (h : EvN K te σ H (xs.map .v)) : EvL te σ H xs := fun H1 e Q q => h H1 e Q fun p ys H2 hp e2 h2 i => by
  rw [pr_vals i] at h2
  exact q p H2 hp e2 h2
theorem ec_var {i : Nat} (h : σ[i]? = some (some v)) (hi : Is K H v c) : EvC K (tVar i) σ H c := fun H1 e Q q => ⟨v, h, q v H1 (Ex.refl H1) (hi.up e)⟩
theorem ec_tup {ta : TA} {xs : List V} (h : EvA ta σ H xs) (hl : xs.length ≤ 1000) : EvC K (tTup ta) σ H (.t xs) := fun H1 e Q q =>
  h H1 e _ fun H2 e2 => ⟨szl hl, fun p hp => q _ _ (e2.trans (Ex.new hp)) ⟨p, rfl, .inl (.inl upd_same)⟩⟩
theorem ec_call {sp : Sp} {E : XK} {ta : TA} {vs : List V} (h : EvA ta σ H vs) (hs : ∀ H1, Ex H H1 → ∀ Q : VK, RetC K c H1 Q → sp (vs ++ []) H1 Q E) : EvC K (tCall sp [] E ta) σ H c := fun H1 e Q q =>
  h H1 e _ fun H2 e2 => hs H2 (e.trans e2) Q fun v H3 e3 i => q v H3 (e2.trans e3) i
theorem en_call {sp : Sp} {E : XK} {ta : TA} {vs : List V} {cs : List Cel} (h : EvA ta σ H vs) (hs : ∀ H1, Ex H H1 → ∀ Q : VK, RetN K cs H1 Q → sp (vs ++ []) H1 Q E) : EvN K (tCall sp [] E ta) σ H cs := fun H1 e Q q =>
  h H1 e _ fun H2 e2 => hs H2 (e.trans e2) Q fun p xs H3 hp e3 h3 i => q p xs H3 (fresh_back e2 hp) (e2.trans e3) h3 i
/-- c[i] of a tuple -/
theorem ev_ixC {xs : List V} {i : Nat} (h : EvC K ta σ H (.t xs)) (hb : Ev tb σ H (.int (i : Nat))) (hi : xs[i]? = some v) : Ev (tOp (rIxT K) ta tb) σ H v := fun H1 e Q q =>
  h H1 e _ fun w H2 e2 is => by
    obtain ⟨a, rfl, hs⟩ := is
    exact hb H2 (e.trans e2) _ fun H3 e3 => ⟨a, xs, (i : Nat), v, rfl, rfl, ex_t e3 hs, atI_nat hi, q H3 (e2.trans e3)⟩
theorem en_cat {cs ds : List Cel} (ha : EvN K ta σ H cs) (hb : EvN K tb σ H ds) (hz : cs.length + ds.length ≤ 100000) : EvN K (tOp rCat ta tb) σ H (cs ++ ds) := fun H1 e Q q =>
  ha H1 e _ fun p xs H2 hp e2 h2 i2 => hb H2 (e.trans e2) _ fun p' ys H3 hp' e3 h3 i3 => ⟨p, p', xs, ys, rfl, rfl, e3 p _ h2, h3, by rw [pr_len i2, pr_len i3]; exact sz_of hz, fun l hl => q l _ _ (fresh_back (e2.trans e3) hl) ((e2.trans e3).trans (Ex.new hl)) upd_same (pr_app ((i2.up e3).up (Ex.new hl)) (i3.up (Ex.new hl)))⟩
/-- a list that stands, + a new one -/
theorem en_catV {a : Addr} {xs : List V} {cs ds : List Cel} (ha : Ev ta σ H (.ref a)) (hx : H a = some (.lst xs)) (hi : IsAll K H xs cs) (hb : EvN K tb σ H ds) (hz : cs.length + ds.length ≤ 100000) : EvN K (tOp rCat ta tb) σ H (cs ++ ds) := fun H1 e Q q =>
  ha H1 e _ fun H2 e2 => hb H2 (e.trans e2) _ fun p' ys H3 hp' e3 h3 i3 => ⟨a, p', xs, ys, rfl, rfl, ((e.trans e2).trans e3) a _ hx, h3, by rw [pr_len hi, pr_len i3]; exact sz_of hz, fun l hl => q l _ _ (fresh_back (e2.trans e3) hl) ((e2.trans e3).trans (Ex.new hl)) upd_same (pr_app (hi.up (((e.trans e2).trans e3).trans (Ex.new hl))) (i3.up (Ex.new hl)))⟩
/-! ### comprehensions that give cells -/
def givenC (n : Nat) (f : Nat → Bool) (g : Nat → Cel) : List Cel := ((List.range n).filter f).map g
theorem givenC_yes {n : Nat} {f : Nat → Bool} {g : Nat → Cel} (h : f n = true) : givenC (n + 1) f g = givenC n f g ++ [g n] := by
  unfold givenC
  rw [List.range_succ, List.filter_append, List.map_append, List.filter_cons, if_pos h] <;> rfl
theorem givenC_no {n : Nat} {f : Nat → Bool} {g : Nat → Cel} (h : f n = false) : givenC (n + 1) f g = givenC n f g := by
  unfold givenC
  rw [List.range_succ, List.filter_append, List.map_append, List.filter_cons, if_neg (by rw [h]; decide)]
  show _ ++ [] = _
  rw [List.append_nil]
theorem givenC_len (n : Nat) (f : Nat → Bool) (g : Nat → Cel) : (givenC n f g).length ≤ n := by
  unfold givenC
  rw [List.length_map]
  have h := List.length_filter_le f (List.range n)
  rw [List.length_range] at h
  exact h
def Cv (K : PySem.W.Frag) (H : Hp) (f : Nat → Bool) (g : Nat → Cel) (Dl : Addr) (i : Nat) (H' : Hp) : Prop := H Dl = none ∧ Ex H H' ∧ ∃ xs, H' Dl = some (.lst xs) ∧ IsAll K H' xs (givenC i f g)
theorem cv_turn {f : Nat → Bool} {g : Nat → Cel} {Dl : Addr} {i : Nat} {σ2 : L2.St} (p : Cv K H f g Dl i H') (hi : i < 50000) (ht : EvT t σ2 H (f i)) (he : f i = true → EvC K te σ2 H (g i)) :
    t σ2 H' fun b H3 => if b = true then te σ2 H3 fun y H4 => ∃ acc, H4 Dl = some (.lst acc) ∧ acc.length < sizeLine ∧ Cv K H f g Dl (i + 1) (upd H4 Dl (.lst (acc ++ [y]))) else Cv K H f g Dl (i + 1) H3 := by
  obtain ⟨p1, p2, xs, p3, p4⟩ := p
  refine ht H' p2 _ fun H3 e3 => ?_
  cases hf : f i with
  | true =>
    show te σ2 H3 fun y H4 => ∃ acc, H4 Dl = some (.lst acc) ∧ acc.length < sizeLine ∧ Cv K H f g Dl (i + 1) (upd H4 Dl (.lst (acc ++ [y])))
    refine he hf H3 (p2.trans e3) _ fun y H4 e4 iy => ⟨xs, e4 Dl _ (e3 Dl _ p3), sz_lt (by have := givenC_len i f g; have := pr_len p4; omega), p1, Ex.mut ((p2.trans e3).trans e4) p1, _, upd_same, ?_⟩
    rw [givenC_yes hf]
    have h4 := e4 Dl _ (e3 Dl _ p3)
    exact pr_app ((p4.up (e3.trans e4)).ut (ExT.upd h4)) (.cons (iy.ut (ExT.upd h4)) .nil)
  | false =>
    show Cv K H f g Dl (i + 1) H3
    refine ⟨p1, p2.trans e3, xs, e3 Dl _ p3, ?_⟩
    rw [givenC_no hf]
    exact p4.up e3
theorem en_lcR1 {ta : TA} {j : Nat} {vs : List Nat} {n : Int} (f : Nat → Bool) (g : Nat → Cel) (h : EvA ta σ H [.int n]) (hn : 0 ≤ n ∧ n ≤ 40000) (hw : ∀ x, wipe ((wipe σ vs).set j (some x)) vs = wipe σ vs)
    (ht : ∀ (i : Nat) H1, Ex H H1 → (i : Int) < n → EvT t ((wipe σ vs).set j (some (.int (i : Int)))) H1 (f i)) (he : ∀ (i : Nat) H1, Ex H H1 → (i : Int) < n → f i = true → EvC K te ((wipe σ vs).set j (some (.int (i : Int)))) H1 (g i)) :
    EvN K (tLc (iRng1 ta) (gName j) t te vs) σ H (givenC n.toNat f g) := fun H0 e Q q => h H0 e _ fun H1 e1 => ⟨n, rfl, by omega, by omega, fun Dl hD =>
  lc_range (lo := 0) (n := n.toNat) (Cv K H1 f g Dl) ⟨hD, Ex.new hD, [], upd_same, .nil⟩ (fun i H' hi p => by
    have e0 : (0 : Int) + (i : Int) = (i : Int) := Int.zero_add _
    show wipe ((wipe σ vs).set j (some (.int ((0 : Int) + (i : Int))))) vs = wipe σ vs ∧ t ((wipe σ vs).set j (some (.int ((0 : Int) + (i : Int))))) H' fun b H3 => if b = true then te ((wipe σ vs).set j (some (.int ((0 : Int) + (i : Int))))) H3 fun y H4 => ∃ acc, H4 Dl = some (.lst acc) ∧ acc.length < sizeLine ∧ Cv K H1 f g Dl (i + 1) (upd H4 Dl (.lst (acc ++ [y]))) else Cv K H1 f g Dl (i + 1) H3
    rw [e0]
    exact ⟨hw _, cv_turn p (by omega) (ht i H1 (e.trans e1) (by omega)) (fun hf => he i H1 (e.trans e1) (by omega) hf)⟩) (fun H' p => by
      obtain ⟨p1, p2, xs, p3, p4⟩ := p
      exact q Dl xs H' (fresh_back e1 p1) (e1.trans p2) p3 p4)⟩
/-- over a list of cells that stands; the target one name -/
theorem en_lcL {a : Addr} {xs : List V} {cs : List Cel} {j : Nat} {vs : List Nat} (f : Nat → Bool) (g : Nat → Cel) (h : Ev tl σ H (.ref a)) (hx : SqL K H a xs) (hc : IsAll K H xs cs) (hz : cs.length ≤ 40000) (hw : ∀ x, wipe ((wipe σ vs).set j (some x)) vs = wipe σ vs)
    (ht : ∀ (i : Nat) (x : V) (c : Cel) H1, Ex H H1 → cs[i]? = some c → Is K H1 x c → EvT t ((wipe σ vs).set j (some x)) H1 (f i)) (he : ∀ (i : Nat) (x : V) (c : Cel) H1, Ex H H1 → cs[i]? = some c → Is K H1 x c → f i = true → EvC K te ((wipe σ vs).set j (some x)) H1 (g i)) :
    EvN K (tLc (iList K tl) (gName j) t te vs) σ H (givenC cs.length f g) := fun H0 e Q q => h H0 e _ fun H1 e1 => ⟨a, rfl, ⟨xs, ex_l (e.trans e1) hx⟩, fun Dl hD =>
  lc_list (xs := xs) (Cv K H1 f g Dl) ⟨hD, Ex.new hD, [], upd_same, .nil⟩ (fun i H' _ p => ex_l ((e.trans e1).trans p.2.1) hx) (fun i x H' hi p => by
    obtain ⟨c, hci, hic⟩ := pr_get hc hi
    exact ⟨hw x, cv_turn p (by have := (List.getElem?_eq_some_iff.mp hci).1; omega) (ht i x c H1 (e.trans e1) hci (hic.up (e.trans e1))) (fun hf => he i x c H1 (e.trans e1) hci (hic.up (e.trans e1)) hf)⟩)
    (fun H' p => by
      obtain ⟨p1, p2, ys, p3, p4⟩ := p
      rw [pr_len hc] at p4
      exact q Dl ys H' (fresh_back e1 p1) (e1.trans p2) p3 p4)⟩
/-- over a new list of cells -/
theorem en_lcN {cs : List Cel} {j : Nat} {vs : List Nat} (f : Nat → Bool) (g : Nat → Cel) (h : EvN K tl σ H cs) (hz : cs.length ≤ 40000) (hw : ∀ x, wipe ((wipe σ vs).set j (some x)) vs = wipe σ vs)
    (ht : ∀ (i : Nat) (x : V) (c : Cel) H1, Ex H H1 → cs[i]? = some c → Is K H1 x c → EvT t ((wipe σ vs).set j (some x)) H1 (f i)) (he : ∀ (i : Nat) (x : V) (c : Cel) H1, Ex H H1 → cs[i]? = some c → Is K H1 x c → f i = true → EvC K te ((wipe σ vs).set j (some x)) H1 (g i)) :
    EvN K (tLc (iList K tl) (gName j) t te vs) σ H (givenC cs.length f g) := fun H0 e Q q => h H0 e _ fun a xs H1 ha e1 hx hc => ⟨a, rfl, ⟨xs, sq_of hx⟩, fun Dl hD =>
  lc_list (xs := xs) (Cv K H1 f g Dl) ⟨hD, Ex.new hD, [], upd_same, .nil⟩ (fun i H' _ p => sq_of (p.2.1 a _ hx)) (fun i x H' hi p => by
    obtain ⟨c, hci, hic⟩ := pr_get hc hi
    exact ⟨hw x, cv_turn p (by have := (List.getElem?_eq_some_iff.mp hci).1; omega) (ht i x c H1 (e.trans e1) hci hic) (fun hf => he i x c H1 (e.trans e1) hci hic hf)⟩)
    (fun H' p => by
      obtain ⟨p1, p2, ys, p3, p4⟩ := p
      rw [pr_len hc] at p4
      exact q Dl ys H' (fresh_back e1 p1) (e1.trans p2) p3 p4)⟩
/-- which are kept, by the cells themselves -/
theorem givenC_filter (cs : List Cel) (F : Cel → Bool) (d : Cel) : givenC cs.length (fun i => F (cs.getD i d)) (fun i => cs.getD i d) = cs.filter F := by
  unfold givenC
  have e : cs = (List.range cs.length).map fun i => cs.getD i d := by
    apply List.ext_getElem
    · simp
    · intro i h1 h2
      simp [List.getD_eq_getElem?_getD, List.getElem?_eq_getElem h1]
  conv => rhs; rw [e]
  rw [List.filter_map]
  rfl
theorem ev_lenN' {cs : List Cel} (ha : EvN K ta σ H cs) : Ev (tCB (rLenS K) (tCons ta tNil)) σ H (.int (cs.length : Nat)) := fun H1 e Q q =>
  ha H1 e _ fun p xs H2 _ e2 h2 i2 => ⟨p, xs, rfl, Or.inl (sq_of h2), by rw [pr_len i2]; exact q H2 e2⟩
/-- item of a list of cells that stands, of a new one -/
theorem ec_ixN {cs : List Cel} {i : Nat} (h : EvN K ta σ H cs) (hb : ∀ H1, Ex H H1 → Ev tb σ H1 (.int (i : Nat))) (hi : cs[i]? = some c) : EvC K (tOp (rIxL K) ta tb) σ H c := fun H1 e Q q =>
  h H1 e _ fun p xs H2 _ e2 h2 i2 => by
    obtain ⟨x, hx, ix⟩ := pr_get' i2 hi
    exact hb H2 (e.trans e2) H2 (Ex.refl H2) _ fun H3 e3 => ⟨p, xs, (i : Nat), x, rfl, rfl, sq_of (e3 _ _ h2), atI_nat hx, q x H3 (e2.trans e3) (ix.up e3)⟩
theorem ec_ixL {a : Addr} {xs : List V} {cs : List Cel} {i : Nat} (ha : Ev ta σ H (.ref a)) (hs : SqL K H a xs) (hc : IsAll K H xs cs) (hb : Ev tb σ H (.int (i : Nat))) (hi : cs[i]? = some c) : EvC K (tOp (rIxL K) ta tb) σ H c := fun H1 e Q q =>
  ha H1 e _ fun H2 e2 => hb H2 (e.trans e2) _ fun H3 e3 => by
    obtain ⟨x, hx, ix⟩ := pr_get' hc hi
    exact ⟨a, xs, (i : Nat), x, rfl, rfl, ex_l ((e.trans e2).trans e3) hs, atI_nat hx, q x H3 (e2.trans e3) (ix.up ((e.trans e2).trans e3))⟩
/-! statements -/
variable {D : Ends} {tz : TS}
theorem q_asgC {i : Nat} (h : EvC K te σ H c) (k : ∀ v H1, Ex H H1 → Is K H1 v c → tz D (σ.set i (some v)) H1) : tSeq (tAsg te (gName i)) tz D σ H := h H (Ex.refl H) _ k
theorem q_asgN {i : Nat} {cs : List Cel} (h : EvN K te σ H cs) (k : ∀ p xs H1, H p = none → Ex H H1 → H1 p = some (.lst xs) → IsAll K H1 xs cs → tz D (σ.set i (some (.ref p))) H1) : tSeq (tAsg te (gName i)) tz D σ H := h H (Ex.refl H) _ k
theorem s_asgC {i : Nat} (h : EvC K te σ H c) (k : ∀ v H1, Ex H H1 → Is K H1 v c → D.nx (σ.set i (some v)) H1) : tAsg te (gName i) D σ H := h H (Ex.refl H) _ k
theorem s_asgN {i : Nat} {cs : List Cel} (h : EvN K te σ H cs) (k : ∀ p xs H1, H p = none → Ex H H1 → H1 p = some (.lst xs) → IsAll K H1 xs cs → D.nx (σ.set i (some (.ref p))) H1) : tAsg te (gName i) D σ H := h H (Ex.refl H) _ k
theorem s_retC (h : EvC K te σ H c) (k : ∀ v H1, Ex H H1 → Is K H1 v c → D.rt v H1) : tRet te D σ H := h H (Ex.refl H) _ k
theorem s_retN {cs : List Cel} (h : EvN K te σ H cs) (k : ∀ p xs H1, H p = none → Ex H H1 → H1 p = some (.lst xs) → IsAll K H1 xs cs → D.rt (.ref p) H1) : tRet te D σ H := h H (Ex.refl H) _ k
/-! ### alike cells -/
theorem al_tup {xs : List V} {v u : V} {n : Nat} (hv : Is K H v (.t xs)) (hu : Is K H u (.t xs)) (hx : xs.all sc1 = true) (hl : xs.length ≤ 40000) : Al K H (n + 1) v u := by
  obtain ⟨a, rfl, ha⟩ := hv
  obtain ⟨b, rfl, hb⟩ := hu
  refine .inr ⟨a, b, xs, xs, rfl, rfl, .inr ⟨ha, hb⟩, rfl, hl, fun i x y h1 h2 => ?_⟩
  rw [h1] at h2
  cases h2
  exact al_sc (List.all_eq_true.mp hx x (List.mem_of_getElem? h1))
/-- an argument that is a cell -/
theorem ev_callC1 {sp : Sp} {E : XK} (ha : EvC K ta σ H c) (hs : ∀ v H1, Ex H H1 → Is K H1 v c → SpV sp [v] H1 z) : Ev (tCall sp [] E (tCons ta tNil)) σ H z := fun H1 e Q q =>
  ha H1 e _ fun v H2 e2 i => hs v H2 (e.trans e2) i H2 (Ex.refl H2) Q (fun H3 e3 => q H3 (e2.trans e3)) E
theorem ev_callC2 {sp : Sp} {E : XK} {c' : Cel} (ha : EvC K ta σ H c) (hb : ∀ H1, Ex H H1 → EvC K tb σ H1 c') (hs : ∀ v w H1, Ex H H1 → Is K H1 v c → Is K H1 w c' → SpV sp [v, w] H1 z) : Ev (tCall sp [] E (tCons ta (tCons tb tNil))) σ H z := fun H1 e Q q =>
  ha H1 e _ fun v H2 e2 i => hb H2 (e.trans e2) H2 (Ex.refl H2) _ fun w H3 e3 j => hs v w H3 ((e.trans e2).trans e3) (i.up e3) j H3 (Ex.refl H3) Q (fun H4 e4 => q H4 ((e2.trans e3).trans e4)) E
/-! ### cells as data -/
def datV : V → PyData
  | .non => .none
  | .bl b => .bool b
  | .int i => .int i
  | .str x => .str x
  | _ => .none
def okV : V → Bool
  | .non => true
  | .bl _ => true
  | .int _ => true
  | .str x => PyData.strOk x
  | _ => false
def datC : Cel → PyData
  | .v x => datV x
  | .t xs => .tuple (xs.map datV)
def okC : Cel → Bool
  | .v x => okV x
  | .t xs => xs.all okV
theorem dp_v (h : okV x = true) : Dp K H x (datV x) := by
  cases x <;> first | exact .non | exact .bl _ | exact .int _ | exact .str _ | cases h
theorem dp_vs : ∀ {xs : List V}, xs.all okV = true → DpAll K H xs (xs.map datV)
  | [], _ => .nil
  | x :: xs, h => by
    rw [List.all_cons, Bool.and_eq_true] at h
    exact .cons (dp_v h.1) (dp_vs h.2)
theorem dp_c (h : Is K H v c) (ok : okC c = true) : Dp K H v (datC c) := by
  cases c with
  | v x =>
    have e : v = x := h
    rw [e]
    exact dp_v ok
  | t xs =>
    obtain ⟨a, rfl, hs⟩ := h
    exact .tup hs (dp_vs ok)
theorem dp_cs : ∀ {xs : List V} {cs : List Cel}, IsAll K H xs cs → cs.all okC = true → DpAll K H xs (cs.map datC)
  | _, [], h, _ => by cases h; exact .nil
  | _, c :: cs, h, ok => by
    cases h with
    | cons r t =>
      rw [List.all_cons, Bool.and_eq_true] at ok
      exact .cons (dp_c r ok.1) (dp_cs t ok.2)
theorem lay_v (h : okV x = true) : (datV x).canLay0 = true ∧ (datV x).depth = 0 := by
  cases x <;> first | exact ⟨rfl, rfl⟩ | exact ⟨h, rfl⟩ | cases h
theorem lay_vs : ∀ {xs : List V}, xs.all okV = true → PyData.canLayAll0 (xs.map datV) = true ∧ PyData.depthAll (xs.map datV) = 0
  | [], _ => ⟨rfl, rfl⟩
  | x :: xs, h => by
    rw [List.all_cons, Bool.and_eq_true] at h
    obtain ⟨a1, a2⟩ := lay_v h.1
    obtain ⟨b1, b2⟩ := lay_vs h.2
    rw [List.map_cons]
    constructor
    · show (PyData.canLay0 (datV x) && PyData.canLayAll0 (xs.map datV)) = true
      rw [a1, b1]
      rfl
    · show max (PyData.depth (datV x)) (PyData.depthAll (xs.map datV)) = 0
      rw [a2, b2]
      rfl
theorem lay_c (h : okC c = true) : (datC c).canLay0 = true ∧ (datC c).depth ≤ 1 := by
  cases c with
  | v x =>
    obtain ⟨a1, a2⟩ := lay_v h
    exact ⟨a1, by show (datV x).depth ≤ 1; rw [a2]; omega⟩
  | t xs =>
    obtain ⟨a1, a2⟩ := lay_vs h
    exact ⟨a1, by show PyData.depthAll (xs.map datV) + 1 ≤ 1; rw [a2]; omega⟩
theorem lay_cs : ∀ {cs : List Cel}, cs.all okC = true → PyData.canLayAll0 (cs.map datC) = true ∧ PyData.depthAll (cs.map datC) ≤ 1
  | [], _ => ⟨rfl, by show 0 ≤ 1; omega⟩
  | c :: cs, h => by
    rw [List.all_cons, Bool.and_eq_true] at h
    obtain ⟨a1, a2⟩ := lay_c h.1
    obtain ⟨b1, b2⟩ := lay_cs h.2
    rw [List.map_cons]
    constructor
    · show (PyData.canLay0 (datC c) && PyData.canLayAll0 (cs.map datC)) = true
      rw [a1, b1]
      rfl
    · show max (PyData.depth (datC c)) (PyData.depthAll (cs.map datC)) ≤ 1
      omega
theorem shaped_cs {cs : List Cel} (h : cs.all okC = true) : SeqAt.shaped (.list (cs.map datC)) = true := by
  obtain ⟨b1, b2⟩ := lay_cs h
  unfold SeqAt.shaped
  rw [Bool.and_eq_true]
  refine ⟨b1, decide_eq_true ?_⟩
  show PyData.depthAll (cs.map datC) + 1 ≤ 64
  omega
theorem eqv_nil (cs : List Cel) : PyData.eqv (.list (cs.map datC)) (.list []) = cs.isEmpty := by
  cases cs with
  | nil => rfl
  | cons c cs => rfl
theorem ev_nilN {cs : List Cel} (ha : EvN K ta σ H cs) (ok : cs.all okC = true) : Ev (tOp (rEqD K) ta (tLst tNil)) σ H (.bl cs.isEmpty) := fun H1 e Q q =>
  ha H1 e _ fun p xs H2 _ e2 h2 i2 => ⟨Nat.zero_le _, fun l hl => ⟨_, _, .lst (sq_of (by rw [upd_ne (ne_of_none h2 hl)]; exact h2)) (dp_cs (i2.up (Ex.new hl)) ok), .lst (sq_of upd_same) .nil, shaped_cs ok, rfl, by
    rw [eqv_nil]
    exact q _ (e2.trans (Ex.new hl))⟩⟩
theorem ev_nnilN {cs : List Cel} (ha : EvN K ta σ H cs) (ok : cs.all okC = true) : Ev (tOp (rNeD K) ta (tLst tNil)) σ H (.bl (!cs.isEmpty)) := fun H1 e Q q =>
  ha H1 e _ fun p xs H2 _ e2 h2 i2 => ⟨Nat.zero_le _, fun l hl => ⟨_, _, .lst (sq_of (by rw [upd_ne (ne_of_none h2 hl)]; exact h2)) (dp_cs (i2.up (Ex.new hl)) ok), .lst (sq_of upd_same) .nil, shaped_cs ok, rfl, by
    rw [eqv_nil]
    exact q _ (e2.trans (Ex.new hl))⟩⟩
theorem ev_nilL {a : Addr} {xs : List V} {cs : List Cel} (ha : Ev ta σ H (.ref a)) (hs : SqL K H a xs) (hc : IsAll K H xs cs) (ok : cs.all okC = true) : Ev (tOp (rEqD K) ta (tLst tNil)) σ H (.bl cs.isEmpty) := fun H1 e Q q =>
  ha H1 e _ fun H2 e2 => ⟨Nat.zero_le _, fun l hl => ⟨_, _, .lst (ex_l ((e.trans e2).trans (Ex.new hl)) hs) (dp_cs (hc.up ((e.trans e2).trans (Ex.new hl))) ok), .lst (sq_of upd_same) .nil, shaped_cs ok, rfl, by
    rw [eqv_nil]
    exact q _ (e2.trans (Ex.new hl))⟩⟩
theorem ev_nnilL {a : Addr} {xs : List V} {cs : List Cel} (ha : Ev ta σ H (.ref a)) (hs : SqL K H a xs) (hc : IsAll K H xs cs) (ok : cs.all okC = true) : Ev (tOp (rNeD K) ta (tLst tNil)) σ H (.bl (!cs.isEmpty)) := fun H1 e Q q =>
  ha H1 e _ fun H2 e2 => ⟨Nat.zero_le _, fun l hl => ⟨_, _, .lst (ex_l ((e.trans e2).trans (Ex.new hl)) hs) (dp_cs (hc.up ((e.trans e2).trans (Ex.new hl))) ok), .lst (sq_of upd_same) .nil, shaped_cs ok, rfl, by
    rw [eqv_nil]
    exact q _ (e2.trans (Ex.new hl))⟩⟩
theorem txt_ok (p : List Bool) : PyData.strOk (txt p) = true := by
  show ((p.map sg).toArray).all (· < 0x110000) = true
  rw [List.all_toArray, List.all_eq_true]
  intro c hc
  obtain ⟨b, _, rfl⟩ := List.mem_map.mp hc
  cases b <;> decide
/-- max of a new list of whole numbers -/
theorem ev_maxN {ns : List Int} {m : Int} (ha : EvL ta σ H (ns.map V.int)) (hm : m ∈ ns) (hle : ∀ y ∈ ns, y ≤ m) : Ev (tCB (rMax K) (tCons ta tNil)) σ H (.int m) :=
  ev_cbL ha fun p H1 h1 e1 H2 e2 Q q => ⟨p, ns, rfl, sq_of (e2 _ _ h1), List.length_pos_of_mem hm, fun m' h1' h2' => by
    have : m' = m := Int.le_antisymm (hle _ h1') (h2' _ hm)
    rw [this]
    exact q H2 (Ex.refl H2)⟩
end
end Bm
namespace Bm
open PySem PySem.Spec PyProof.Rows L2 Evl
/-! ### held against each other -/
abbrev R3 := Nat × Nat × Option Nat
def r0 : R3 := (0, 1, none)
def bett (a b : R3) : Bool := decide (a.1 * b.2.1 ≤ b.1 * a.2.1) && (decide (a.2.2.getD 0 ≤ b.2.2.getD 0) && (decide (a.1 * b.2.1 < b.1 * a.2.1) || decide (a.2.2.getD 0 < b.2.2.getD 0)))
def sure (rs : List R3) : List Nat := (List.range rs.length).filter fun k => (rs.getD k r0).2.2.isSome
def frontL (rs : List R3) : List Nat := (sure rs).filter fun k => ((sure rs).filter fun j => bett (rs.getD j r0) (rs.getD k r0)).isEmpty
theorem bett_iff (a b : R3) : bett a b = true ↔ a.1 * b.2.1 ≤ b.1 * a.2.1 ∧ a.2.2.getD 0 ≤ b.2.2.getD 0 ∧ (a.1 * b.2.1 < b.1 * a.2.1 ∨ a.2.2.getD 0 < b.2.2.getD 0) := by
  unfold bett
  simp only [Bool.and_eq_true, Bool.or_eq_true, decide_eq_true_eq]
theorem bett_irr (a : R3) : bett a a = false := by
  cases h : bett a a with
  | false => rfl
  | true =>
    obtain ⟨_, _, h3⟩ := (bett_iff a a).mp h
    omega
theorem bett_trans {a b c : R3} (ha : 0 < a.2.1) (hb : 0 < b.2.1) (hc : 0 < c.2.1) (h1 : bett a b = true) (h2 : bett b c = true) : bett a c = true := by
  obtain ⟨a1, n, w1⟩ := a
  obtain ⟨a2, m, w2⟩ := b
  obtain ⟨a3, k, w3⟩ := c
  obtain ⟨p1, p2, p3⟩ := (bett_iff _ _).mp h1
  obtain ⟨q1, q2, q3⟩ := (bett_iff _ _).mp h2
  dsimp only at *
  have e1 : a1 * m * k ≤ a2 * n * k := Nat.mul_le_mul_right k p1
  have e2 : a2 * k * n ≤ a3 * m * n := Nat.mul_le_mul_right n q1
  have c1 : a1 * m * k = (a1 * k) * m := by rw [Nat.mul_assoc, Nat.mul_comm m k, ← Nat.mul_assoc]
  have c2 : a2 * n * k = a2 * k * n := by rw [Nat.mul_assoc, Nat.mul_comm n k, ← Nat.mul_assoc]
  have c3 : a3 * m * n = (a3 * n) * m := by rw [Nat.mul_assoc, Nat.mul_comm m n, ← Nat.mul_assoc]
  have e3 : (a1 * k) * m ≤ (a3 * n) * m := by omega
  refine (bett_iff _ _).mpr ⟨Nat.le_of_mul_le_mul_right e3 hb, (by show w1.getD 0 ≤ w3.getD 0; omega), ?_⟩
  dsimp only
  rcases p3 with p3 | p3
  · left
    have : a1 * m * k < a2 * n * k := Nat.mul_lt_mul_of_pos_right p3 hc
    have e4 : (a1 * k) * m < (a3 * n) * m := by omega
    exact Nat.lt_of_mul_lt_mul_right e4
  · right
    omega
theorem mem_sure {rs : List R3} {k : Nat} : k ∈ sure rs ↔ k < rs.length ∧ (rs.getD k r0).2.2.isSome = true := by
  unfold sure
  rw [List.mem_filter, List.mem_range]
theorem filter_lt {α : Type} {l : List α} {f g : α → Bool} (h : ∀ x ∈ l, f x = true → g x = true) {x : α} (hx : x ∈ l) (h1 : f x = false) (h2 : g x = true) : (l.filter f).length < (l.filter g).length := by
  induction l with
  | nil => cases hx
  | cons a l ih =>
    have hle : (l.filter f).length ≤ (l.filter g).length := by
      clear ih hx
      induction l with
      | nil => exact Nat.le_refl _
      | cons b l ih2 =>
        have := ih2 (fun x hx => h x (by rcases List.mem_cons.mp hx with rfl | hx <;> simp [*]))
        have hb := h b (by simp)
        rw [List.filter_cons, List.filter_cons]
        by_cases c : f b = true
        · rw [if_pos c, if_pos (hb c)]
          simp
          exact this
        · rw [if_neg c]
          split
          · simp
            omega
          · exact this
    rw [List.filter_cons, List.filter_cons]
    rcases List.mem_cons.mp hx with rfl | hx
    · rw [if_neg (by rw [h1]; decide), if_pos h2]
      simp
      omega
    · have := ih (fun x hx => h x (List.mem_cons_of_mem _ hx)) hx
      by_cases c : f a = true
      · rw [if_pos c, if_pos (h a (by simp) c)]
        simp
        exact this
      · rw [if_neg c]
        split
        · simp
          omega
        · exact this
/-- of each other sure one a told one is better -/
theorem front_dom {rs : List R3} (hpos : ∀ k, k < rs.length → 0 < (rs.getD k r0).2.1) : ∀ (n k : Nat), ((sure rs).filter fun j => bett (rs.getD j r0) (rs.getD k r0)).length ≤ n → k ∈ sure rs → k ∉ frontL rs → ∃ j ∈ frontL rs, bett (rs.getD j r0) (rs.getD k r0) = true
  | 0, k, hn, hk, hf => by
    refine absurd (List.mem_filter.mpr ⟨hk, ?_⟩) hf
    have : ((sure rs).filter fun j => bett (rs.getD j r0) (rs.getD k r0)) = [] := List.eq_nil_of_length_eq_zero (by omega)
    rw [this]
    rfl
  | n + 1, k, hn, hk, hf => by
    cases e : (sure rs).filter fun j => bett (rs.getD j r0) (rs.getD k r0) with
    | nil =>
      refine absurd (List.mem_filter.mpr ⟨hk, ?_⟩) hf
      rw [e]
      rfl
    | cons j js =>
      have hj : j ∈ (sure rs).filter fun j => bett (rs.getD j r0) (rs.getD k r0) := by rw [e]; simp
      obtain ⟨hj1, hj2⟩ := List.mem_filter.mp hj
      by_cases hjf : j ∈ frontL rs
      · exact ⟨j, hjf, hj2⟩
      · have pj := hpos j (mem_sure.mp hj1).1
        have pk := hpos k (mem_sure.mp hk).1
        have hlt := filter_lt (l := sure rs) (f := fun i => bett (rs.getD i r0) (rs.getD j r0)) (g := fun i => bett (rs.getD i r0) (rs.getD k r0)) (fun i hi h => bett_trans (hpos i (mem_sure.mp hi).1) pj pk h hj2) hj1 (bett_irr _) hj2
        obtain ⟨i, hi, hib⟩ := front_dom hpos n j (by omega) hj1 hjf
        exact ⟨i, hi, bett_trans (hpos i (mem_sure.mp (List.mem_filter.mp hi).1).1) pj pk hib hj2⟩
def cR (r : R3) : Cel := .t [.int (r.1 : Nat), .int (r.2.1 : Nat), oV r.2.2]
def rowOf (p : List Bool) : R3 := ((onesV p).length, p.length, (worst p p false).1)
def natsV (ks : List Nat) : List V := ks.map fun k => V.int (k : Nat)
def spBetter (K : PySem.W.Frag) : Sp := fun vs H Q _ => ∃ (v u : V) (r s : R3), vs = [v, u] ∧ Is K H v (cR r) ∧ Is K H u (cR s) ∧ (r.2.2.isSome = true ∧ s.2.2.isSome = true) ∧ (r.1 ≤ 1000 ∧ s.1 ≤ 1000) ∧ RetV (.bl (bett r s)) H Q
theorem oV_get {o : Option Nat} (h : o.isSome = true) : oV o = .int (o.getD 0 : Nat) := by
  cases o with
  | none => cases h
  | some m => rfl
section
variable {K : PySem.W.Frag} {σ : L2.St} {H : Hp} {ta tb te tl : TE} {c : Cel} {D : Ends} {tz : TS}
theorem q_appC {l : Addr} {xs : List V} (hl : H l = some (.lst xs)) (ha : Ev ta σ H (.ref l)) (h : EvC K te σ H c) (hz : xs.length < 100000) (k : ∀ v H1, Ex H H1 → Is K H1 v c → tz D σ (upd H1 l (.lst (xs ++ [v])))) :
    tSeq (tDrop (tBM K "list" rAppend ta (tCons te tNil))) tz D σ H := ha H (Ex.refl H) _ fun H1 e1 =>
  ⟨Or.inl ⟨rfl, xs, sq_of (e1 l _ hl)⟩, h H1 e1 _ fun v H2 e2 i2 => ⟨l, xs, v, rfl, rfl, e2 l _ (e1 l _ hl), sz_lt hz, k v H2 (e1.trans e2) i2⟩⟩
theorem s_appC {l : Addr} {xs : List V} (hl : H l = some (.lst xs)) (ha : Ev ta σ H (.ref l)) (h : EvC K te σ H c) (hz : xs.length < 100000) (k : ∀ v H1, Ex H H1 → Is K H1 v c → D.nx σ (upd H1 l (.lst (xs ++ [v])))) :
    tDrop (tBM K "list" rAppend ta (tCons te tNil)) D σ H := ha H (Ex.refl H) _ fun H1 e1 =>
  ⟨Or.inl ⟨rfl, xs, sq_of (e1 l _ hl)⟩, h H1 e1 _ fun v H2 e2 i2 => ⟨l, xs, v, rfl, rfl, e2 l _ (e1 l _ hl), sz_lt hz, k v H2 (e1.trans e2) i2⟩⟩
/-- a new list, of cells, that may stand elsewhere too -/
theorem s_forEL {ta : TA} {a : Addr} {xs : List V} {g : TG} {tu : TS} (h : EvA ta σ H [.ref a]) (hx : SqL K H a xs) (Pv : Nat → L2.St → Hp → Prop) (h0 : ∀ H1, Ex H H1 → Pv 0 σ H1) (hG : ∀ i σ' H', i ≤ xs.length → Pv i σ' H' → SqL K H' a xs)
    (hs : ∀ i T x σ' H', xs[i]? = some x → Pv i σ' H' → H' T = none → g (.ref T) σ' (upd H' T (.tup [.int (i : Nat), x])) fun σ2 H2 => tu { D with nx := Pv (i + 1), ct := Pv (i + 1), bk := D.nx } σ2 H2)
    (hd : ∀ σ' H', Pv xs.length σ' H' → D.nx σ' H') : tFor (iEnum K ta) g tu D σ H :=
  h H (Ex.refl H) _ fun H1 e => ⟨a, xs, rfl, ex_l e hx, for_it (walk_enum (xs := xs)) Pv (h0 H1 e) hG (fun i v σ' H' H2 _ p y => by
    obtain ⟨T, x, z, rfl, hT, rfl, hx1, hx2⟩ := y
    cases hx1
    exact hs i T z σ' H' hx2 p hT) hd⟩
/-- list(xs) -/
theorem en_listL {a : Addr} {xs : List V} {cs : List Cel} (ha : Ev ta σ H (.ref a)) (hs : SqL K H a xs) (hi : IsAll K H xs cs) : EvN K (tCB (rListS K) (tCons ta tNil)) σ H cs := fun H1 e Q q =>
  ha H1 e _ fun H2 e2 => ⟨a, xs, rfl, Or.inl (ex_l (e.trans e2) hs), fun l hl => q l xs _ (fresh_back e2 hl) (e2.trans (Ex.new hl)) upd_same ((hi.up (e.trans e2)).up (Ex.new hl))⟩
/-- two lists of the same cells -/
theorem al_list {cs : List Cel} {a b : Addr} {xs ys : List V} {n : Nat} (ha : SqL K H a xs) (hx : IsAll K H xs cs) (hb : SqL K H b ys) (hy : IsAll K H ys cs) (hl : cs.length ≤ 40000) (hc : ∀ c ∈ cs, ∀ x y, Is K H x c → Is K H y c → Al K H n x y) : Al K H (n + 1) (.ref a) (.ref b) := by
  refine .inr ⟨a, b, xs, ys, rfl, rfl, .inl ⟨ha, hb⟩, by rw [pr_len hx, pr_len hy], by rw [pr_len hx]; exact hl, fun i x y h1 h2 => ?_⟩
  obtain ⟨c, c1, c2⟩ := pr_get hx h1
  obtain ⟨c', c3, c4⟩ := pr_get hy h2
  rw [c1] at c3
  cases c3
  exact hc c (List.mem_of_getElem? c1) x y c2 c4
theorem DD.weaken {Da : Addr} {G G' H : Hp} (d : DD Da G' H) (e : Ex G G') (hn : G Da = none) : DD Da G H := ⟨hn, e.trans d.ex, d.at_⟩
end
end Bm
namespace Bm
open PySem PySem.Spec PyProof.Rows L2 Evl
/-! ### the text -/
def topS (i : Nat) : Stmt := PySem.Challenge.pw_beaconmeet_k09_whole_none_better.main.body.getD i (.Pass ⟨0, 0, 0, 0⟩)
end Bm
namespace Bm
open PySem PySem.Spec PyProof.Rows L2 Evl
section
variable {P : Program} {w : World} {K : PySem.W.Frag} {mg : PySem.Str → Option Value} {base : Heap}
/-! ### fault_of -/
abbrev s_fault_of : Stmt := topS 7
theorem sc_fault_of : FnScope ["pattern", "at", "sign"] ["pattern"] (defScope s_fault_of) := ⟨rfl, rfl, rfl, by decide +kernel, rfl, by decide +kernel, by decide +kernel⟩
def spFault : Sp := fun vs H Q _ => ∃ x : PySem.Str, vs = [.str x] ∧ x.length ≤ 1000 ∧ RetV (oV (fault x.cps.toList)) H Q
theorem sign01 (c : Nat) : (!inV (.str ⟨#[c]⟩) [.str "1", .str "0"]) = !(c == 49 || c == 48) := by
  have h1 : eqV (.str "1") (.str ⟨#[c]⟩) = (c == 49) := by
    show decide (("1" : PySem.Str) = ⟨#[c]⟩) = _
    by_cases h : c = 49
    · subst h; rfl
    · rw [decide_eq_false (fun e => h (by have := congrArg (fun z : PySem.Str => z.cps.toList) e; simpa using (List.cons.inj this).1.symm))]
      simp [h]
  have h0 : eqV (.str "0") (.str ⟨#[c]⟩) = (c == 48) := by
    show decide (("0" : PySem.Str) = ⟨#[c]⟩) = _
    by_cases h : c = 48
    · subst h; rfl
    · rw [decide_eq_false (fun e => h (by have := congrArg (fun z : PySem.Str => z.cps.toList) e; simpa using (List.cons.inj this).1.symm))]
      simp [h]
  show (!(eqV (.str "1") (.str ⟨#[c]⟩) || (eqV (.str "0") (.str ⟨#[c]⟩) || false))) = _
  rw [h1, h0, Bool.or_false]
theorem ok_fault_of (D : Def1 K mg "fault_of" s_fault_of) (B : Bl mg) (g_MOST_BEATS : ∃ t, mg "MOST_BEATS" = some (.int 12 t)) (g_AWAKE : ∃ t, mg "AWAKE" = some (.str "1" t)) (g_ASLEEP : ∃ t, mg "ASLEEP" = some (.str "0" t)) :
    Cal P w K mg base 1 "fault_of" ["pattern"] spFault := by
  refine D.cal sc_fault_of (fun _ _ _ _ _ _ us hl => match us, hl with | [_], _ => rfl) (fun vs H Q E h => ?_) (fun f cdv A outer s H vs Q E hr h => ?_)
  · obtain ⟨x, rfl, _⟩ := h
    rfl
  · obtain ⟨x, rfl, hl, k⟩ := h
    refine ⟨_, (pss_cons (ps_for PassesOwn.never rfl (pi_enumS (by rfl) B.enumerate (pa_cons (pv 0) pa_nil)) (pg_tup rfl (pgs_cons (pg_name (i := 1) sc_fault_of.nd rfl (Or.inl rfl)) (pgs_cons (pg_name (i := 2) sc_fault_of.nd rfl (Or.inl rfl)) pgs_nil)))
 (pss_one (ps_if (PW.pt (pw_or (pt_cmpR op_ge (pv 1) (pe_gI g_MOST_BEATS) (nomark _)) (pw_or1 (pt_cmpR op_notIn_seq (pv 2) (pe_tup (pa_cons (pe_gS g_AWAKE) (pa_cons (pe_gS g_ASLEEP) pa_nil))) (by rfl))))) (pss_one (ps_ret (pv 1)))
 pss_nil)))
 (pss_one (ps_ret (pe_ifExp (pt_cmpR op_notIn_sign (pe_gS g_AWAKE) (pv 0) (by rfl)) (pe_callB call_len_str (by rfl) B.len PySem.boot_len (pa_cons (pv 0) pa_nil)) pe_non)))), ?_⟩
    have hls : x.cps.toList.length = x.cps.size := Array.length_toList
    refine s_forES (ea_cons (ev_var rfl) ea_nil) (fun i σ H' => (∃ y1 y2, σ = [some (.str x), y1, y2]) ∧ Ex H H' ∧ ∀ j, j < i → badAt (x.cps.toList.getD j 0) j = false) (fun H1 e => ⟨⟨_, _, rfl⟩, e, fun j hj => absurd hj (Nat.not_lt_zero _)⟩) (fun i T c σ' H' hc p hT => ?_) (fun σ' H' p => ?_)
    · obtain ⟨⟨y1, y2, rfl⟩, e, pr⟩ := p
      refine g_two ?_
      have hg : x.cps.toList.getD i 0 = c := by
        rw [List.getD_eq_getElem?_getD, Array.getElem?_toList, hc]
        rfl
      have hi : i < x.cps.size := (Array.getElem?_eq_some_iff.mp hc).1
      have eT : Ex H (upd H' T (.tup [.int (i : Nat), .str ⟨#[c]⟩])) := e.trans (Ex.new hT)
      refine s_when (b := badAt c i) (et_is (et_or (et_test (ev_op (ev_var rfl) ev_c rv_I0)) (fun _ => et_test (ev_niU (ev_var rfl) (eu_tup (ea_cons ev_c (ea_cons ev_c ea_nil)) (by show 2 ≤ 100000; decide)) rfl rfl))) ?_) (fun hb H1 e1 => ?_) (fun hb H1 e1 => ?_)
      · rw [sign01]
        show (decide ((12 : Int) ≤ (i : Int)) || _) = badAt c i
        unfold badAt
        congr 1
        exact decide_eq_decide.mpr (by omega)
      · refine s_ret (v := .int (i : Nat)) (ev_var rfl) fun H2 e2 => ?_
        have hf : fault x.cps.toList = some i := by
          unfold fault
          rw [find_range_is (n := x.cps.toList.length) (m := i) (by rw [hls]; exact hi) (by rw [hg]; exact hb) pr]
        have := k H2 ((eT.trans e1).trans e2)
        rw [hf] at this
        exact this
      · refine ⟨⟨_, _, rfl⟩, eT.trans e1, fun j hj => ?_⟩
        by_cases hj' : j < i
        · exact pr j hj'
        · have : j = i := by omega
          rw [this, hg]
          exact hb
    · obtain ⟨⟨y1, y2, rfl⟩, e, pr⟩ := p
      have hn : (List.range x.cps.toList.length).find? (fun i => badAt (x.cps.toList.getD i 0) i) = none := find_range_no (by rw [hls]; exact pr)
      have hf : fault x.cps.toList = if 49 ∈ x.cps.toList then none else some x.cps.toList.length := by
        unfold fault
        rw [hn]
      have hin : Ev (tOp rSignNot (tC (.str "1")) (tVar 0)) [some (.str x), y1, y2] H' (.bl (!decide (49 ∈ x.cps.toList))) :=
        ev_op ev_c (ev_var rfl) fun H1 _ _ q => ⟨49, x, rfl, rfl, q H1 (Ex.refl H1)⟩
      have hln : Ev (tCB rLenStr (tCons (tVar 0) tNil)) [some (.str x), y1, y2] H' (.int (x.cps.toList.length : Nat)) := fun H1 _ Q q => ⟨.str x, rfl, x, rfl, szl hl, by have z := q H1 (Ex.refl H1); rw [hls] at z; exact z⟩
      refine s_ret (v := oV (fault x.cps.toList)) (ev_if (et_test hin) (fun hb => ?_) (fun hb => ?_)) fun H2 e2 => k H2 (e.trans e2)
      · have : ¬ 49 ∈ x.cps.toList := by simpa using hb
        rw [hf, if_neg this]
        exact hln
      · have : 49 ∈ x.cps.toList := by simpa using hb
        rw [hf, if_pos this]
        exact ev_c
/-! ### awake_of -/
abbrev s_awake_of : Stmt := topS 8
theorem sc_awake_of : FnScope ["pattern", "at"] ["pattern"] (defScope s_awake_of) := ⟨rfl, rfl, rfl, by decide +kernel, rfl, by decide +kernel, by decide +kernel⟩
theorem ok_awake_of (D : Def1 K mg "awake_of" s_awake_of) (B : Bl mg) (g_AWAKE : ∃ t, mg "AWAKE" = some (.str "1" t)) : Cal P w K mg base 1 "awake_of" ["pattern"] spOnes := by
  refine D.cal sc_awake_of (fun _ _ _ _ _ _ us hl => match us, hl with | [_], _ => rfl) (fun vs H Q E h => ?_) (fun f cdv A outer s H vs Q E hr h => ?_)
  · obtain ⟨p, rfl, _⟩ := h
    rfl
  · obtain ⟨p, rfl, hp, k⟩ := h
    refine ⟨_, (pss_one (ps_ret (pe_lc (own := [("at", 1)]) (g := gName 1) rfl sc_awake_of.nd (pi_range1 (by rfl) B.range (pa_cons (pe_callB call_len_str (by rfl) B.len PySem.boot_len (pa_cons (pv 0) pa_nil)) pa_nil)) (blkOk_by (N := ["pattern", "at"]) (sc := defScope s_awake_of) (by decide +kernel)) (fun _ _ _ _ _ => (pg_name (i := 1) sc_awake_of.nd rfl (Or.inl rfl))) (fun _ _ _ _ _ => (pts_one (pt_cmpR op_eq (pe_ix ix_str (pv 0) (pv 1) (fun _ _ => rfl)) (pe_gS g_AWAKE) (nomark _)))) (fun _ _ _ _ _ => (pv 1))))), ?_⟩
    refine s_retL (el_lcR1 (n := ((p.length : Nat) : Int)) (fun i => p.getD i false) (fun i => .int (i : Nat)) (ea_cons (ev_lenS (ev_var rfl) hp) ea_nil) (by omega) (fun _ => rfl) (fun i H1 e1 hi => ?_) (fun i H1 e1 hi _ => ev_var rfl)) fun a H1 ha e1 h1 => k a H1 ha e1 h1
    exact et_test (ev_is1 (ev_ixP (ev_var rfl) (ev_var rfl) (by omega) hp) ev_c)
/-! ### is_met -/
abbrev s_is_met : Stmt := topS 11
theorem sc_is_met : FnScope ["one", "other", "here", "there", "loose"] ["one", "other", "here", "there", "loose"] (defScope s_is_met) := ⟨rfl, rfl, rfl, by decide +kernel, rfl, by decide +kernel, by decide +kernel⟩
def spIsMet : Sp := fun vs H Q _ => ∃ (p q : List Bool) (x y : Nat) (l : Bool), vs = [.str (txt p), .str (txt q), .int (x : Nat), .int (y : Nat), .bl l] ∧ (0 < p.length ∧ p.length ≤ 1000) ∧ (0 < q.length ∧ q.length ≤ 1000) ∧ RetV (.bl (met p q l x y)) H Q
theorem ok_is_met (D : Def1 K mg "is_met" s_is_met) (B : Bl mg) (g_AWAKE : ∃ t, mg "AWAKE" = some (.str "1" t)) (g_LATER : ∃ t, mg "LATER" = some (.int 1 t)) :
    Cal P w K mg base 1 "is_met" ["one", "other", "here", "there", "loose"] spIsMet := by
  refine D.cal sc_is_met (fun _ _ _ _ _ _ us hl => match us, hl with | [_, _, _, _, _], _ => rfl) (fun vs H Q E h => ?_) (fun f cdv A outer s H vs Q E hr h => ?_)
  · obtain ⟨p, q, x, y, l, rfl, _⟩ := h
    rfl
  · obtain ⟨p, q, x, y, l, rfl, ⟨hp, hp2⟩, ⟨hq, hq2⟩, k⟩ := h
    refine ⟨_, (pss_cons (ps_if (pt_cmpR op_ne (pe_ix ix_str (pv 1) (pe_op op_mod (pv 3) (pe_callB call_len_str (by rfl) B.len PySem.boot_len (pa_cons (pv 1) pa_nil))) (fun _ _ => rfl)) (pe_gS g_AWAKE) (nomark _)) (pss_one (ps_ret pe_bl))
 pss_nil)
 (pss_one (ps_ret (pe_or (pe_cmpR op_eq (pe_ix ix_str (pv 0) (pe_op op_mod (pv 2) (pe_callB call_len_str (by rfl) B.len PySem.boot_len (pa_cons (pv 0) pa_nil))) (fun _ _ => rfl)) (pe_gS g_AWAKE) (nomark _)) (pe_one (pe_and (pv 4) (pe_one (pe_cmpR op_eq (pe_ix ix_str (pv 0) (pe_op op_mod (pe_op op_add (pv 2) (pe_gI g_LATER)) (pe_callB call_len_str (by rfl) B.len PySem.boot_len (pa_cons (pv 0) pa_nil))) (fun _ _ => rfl)) (pe_gS g_AWAKE) (nomark _))))))))), ?_⟩
    refine q_when (b := !(aw q y)) (et_test (ev_no1 (ev_ixP (p := q) (ev_var rfl) (ev_modN (ev_var rfl) (ev_lenS (ev_var rfl) hq2) hq) (Nat.mod_lt _ hq) hq2) ev_c)) (fun hb H1 e1 => ?_) (fun hb H1 e1 => ?_)
    · refine s_ret (v := .bl (met p q l x y)) (ev_is ev_c ?_) fun H2 e2 => k H2 (e1.trans e2)
      have z : aw q y = false := by simpa using hb
      unfold met
      rw [z]
      rfl
    · refine s_ret (v := .bl (met p q l x y)) (ev_is (ev_orV (a := aw p x) (ev_is1 (ev_ixP (p := p) (ev_var rfl) (ev_modN (ev_var rfl) (ev_lenS (ev_var rfl) hp2) hp) (Nat.mod_lt _ hp) hp2) ev_c)
        (fun _ => ev_andV (a := l) (b := aw p (x + 1)) (ev_var rfl) (fun _ => ev_is1 (ev_ixP (p := p) (ev_var rfl) (ev_modN (ev_addN (ev_var rfl) (ev_c (v := .int ((1 : Nat) : Int)))) (ev_lenS (ev_var rfl) hp2) hp) (Nat.mod_lt _ hp) hp2) ev_c))) ?_) fun H2 e2 => k H2 (e1.trans e2)
      have z : aw q y = true := by simpa using hb
      unfold met
      rw [z]
      rfl
/-! ### first_of -/
abbrev s_first_of : Stmt := topS 12
theorem sc_first_of : FnScope ["one", "a", "other", "b", "loose", "moment"] ["one", "a", "other", "b", "loose"] (defScope s_first_of) := ⟨rfl, rfl, rfl, by decide +kernel, rfl, by decide +kernel, by decide +kernel⟩
def spFirst : Sp := fun vs H Q _ => ∃ (p q : List Bool) (a b : Nat) (l : Bool), vs = [.str (txt p), .int (a : Nat), .str (txt q), .int (b : Nat), .bl l] ∧ (0 < p.length ∧ p.length ≤ 100) ∧ (0 < q.length ∧ q.length ≤ 100) ∧ RetV (oV (first p q l a b)) H Q
theorem ok_first_of (D : Def1 K mg "first_of" s_first_of) (B : Bl mg) (c_is_met : Cal P w K mg base 1 "is_met" ["one", "other", "here", "there", "loose"] spIsMet) :
    Cal P w K mg base 2 "first_of" ["one", "a", "other", "b", "loose"] spFirst := by
  refine D.cal sc_first_of (fun _ _ _ _ _ _ us hl => match us, hl with | [_, _, _, _, _], _ => rfl) (fun vs H Q E h => ?_) (fun f cdv A outer s H vs Q E hr h => ?_)
  · obtain ⟨p, q, x, y, l, rfl, _⟩ := h
    rfl
  · obtain ⟨p, q, a, b, l, rfl, ⟨hp, hp2⟩, ⟨hq, hq2⟩, k⟩ := h
    refine ⟨_, (pss_cons (ps_for PassesOwn.never rfl (pi_range1 (by rfl) B.range (pa_cons (pe_op op_mul (pe_callB call_len_str (by rfl) B.len PySem.boot_len (pa_cons (pv 0) pa_nil)) (pe_callB call_len_str (by rfl) B.len PySem.boot_len (pa_cons (pv 2) pa_nil))) pa_nil)) (pg_name (i := 5) sc_first_of.nd rfl (Or.inl rfl))
 (pss_one (ps_if (pt_val (pe_callC c_is_met hr (by decide) (pa_cons (pv 0) (pa_cons (pv 2) (pa_cons (pe_op op_add (pv 1) (pv 5)) (pa_cons (pe_op op_add (pv 3) (pv 5)) (pa_cons (pv 4) pa_nil))))))) (pss_one (ps_ret (pv 5)))
 pss_nil)))
 (pss_one (ps_ret pe_non))), ?_⟩
    have hm : p.length * q.length ≤ 100 * 100 := Nat.mul_le_mul hp2 hq2
    refine q_forR1 (n := ((p.length * q.length : Nat) : Int)) (ea_cons (ev_mulN (ev_lenS (p := p) (ev_var rfl) (by omega)) (ev_lenS (p := q) (ev_var rfl) (by omega)) (by omega)) ea_nil) (by omega)
      (fun i σ H' => (∃ z, σ = [some (.str (txt p)), some (.int (a : Nat)), some (.str (txt q)), some (.int (b : Nat)), some (.bl l), z]) ∧ Ex H H' ∧ ∀ j, j < i → met p q l (a + j) (b + j) = false)
      (fun H1 e => ⟨⟨_, rfl⟩, e, fun j hj => absurd hj (Nat.not_lt_zero _)⟩) (fun i σ' H' hi pr => ?_) (fun σ' H' pr => ?_)
    · obtain ⟨⟨z, rfl⟩, e, pr⟩ := pr
      refine s_when (b := met p q l (a + i) (b + i)) (et_B (ev_call (ea_cons (ev_var rfl) (ea_cons (ev_var rfl) (ea_cons (ev_addN (ev_var rfl) (ev_var rfl)) (ea_cons (ev_addN (ev_var rfl) (ev_var rfl)) (ea_cons (ev_var rfl) ea_nil)))))
        fun H1 e Q k E => ⟨p, q, a + i, b + i, l, rfl, ⟨hp, by omega⟩, ⟨hq, by omega⟩, k⟩)) (fun hb H1 e1 => ?_) (fun hb H1 e1 => ?_)
      · refine s_ret (v := .int (i : Nat)) (ev_var rfl) fun H2 e2 => ?_
        have hf : first p q l a b = some i := find_range_is (by omega) hb pr
        have := k H2 ((e.trans e1).trans e2)
        rw [hf] at this
        exact this
      · refine ⟨⟨_, rfl⟩, e.trans e1, fun j hj => ?_⟩
        by_cases hj' : j < i
        · exact pr j hj'
        · have : j = i := by omega
          rw [this]
          exact hb
    · obtain ⟨⟨z, rfl⟩, e, pr⟩ := pr
      refine s_ret (v := .non) ev_c fun H2 e2 => ?_
      have hf : first p q l a b = none := find_range_no (by
        intro i hi
        exact pr i (by omega))
      have := k H2 (e.trans e2)
      rw [hf] at this
      exact this
/-! ### worst_of -/
abbrev s_worst_of : Stmt := topS 13
theorem sc_worst_of : FnScope ["one", "other", "loose", "best", "a", "b", "moment"] ["one", "other", "loose"] (defScope s_worst_of) := ⟨rfl, rfl, rfl, by decide +kernel, rfl, by decide +kernel, by decide +kernel⟩
def cRow (r : Row) : Cel := .t [oV r.1, .int (r.2.1 : Nat), .int (r.2.2 : Nat)]
theorem cRow_ok (r : Row) : okC (cRow r) = true := by
  obtain ⟨o, a, b⟩ := r
  cases o <;> rfl
def spWorst (K : PySem.W.Frag) : Sp := fun vs H Q _ => ∃ (p q : List Bool) (l : Bool), vs = [.str (txt p), .str (txt q), .bl l] ∧ (0 < p.length ∧ p.length ≤ 100) ∧ (0 < q.length ∧ q.length ≤ 100) ∧ RetC K (cRow (worst p q l)) H Q
/-- the best so far, as a value -/
def isBest (K : PySem.W.Frag) (H : Hp) (v : V) : Option Row → Prop
  | none => v = .non
  | some r => r.1 ≠ none ∧ Is K H v (cRow r)
theorem isBest.up {H H' : Hp} {v : V} {o : Option Row} (h : isBest K H v o) (e : Ex H H') : isBest K H' v o := by
  cases o with
  | none => exact h
  | some r => exact ⟨h.1, h.2.up e⟩
theorem allMeet_app {a b : List Row} : allMeet (a ++ b) ↔ allMeet a ∧ allMeet b :=
  ⟨fun h => ⟨fun r hr => h r (List.mem_append_left _ hr), fun r hr => h r (List.mem_append_right _ hr)⟩, fun h r hr => (List.mem_append.mp hr).elim (h.1 r) (h.2 r)⟩
theorem ok_worst_of (D : Def1 K mg "worst_of" s_worst_of) (B : Bl mg) (c_first_of : Cal P w K mg base 2 "first_of" ["one", "a", "other", "b", "loose"] spFirst) : Cal P w K mg base 3 "worst_of" ["one", "other", "loose"] (spWorst K) := by
  refine D.cal sc_worst_of (fun _ _ _ _ _ _ us hl => match us, hl with | [_, _, _], _ => rfl) (fun vs H Q E h => ?_) (fun f cdv A outer s H vs Q E hr h => ?_)
  · obtain ⟨p, q, l, rfl, _⟩ := h
    rfl
  · obtain ⟨p, q, l, rfl, ⟨hp, hp2⟩, ⟨hq, hq2⟩, k⟩ := h
    refine ⟨_, (pss_cons (ps_set (i := 3) sc_worst_of.nd rfl (Or.inl rfl) pe_non)
 (pss_cons (ps_for PassesOwn.never rfl (pi_range1 (by rfl) B.range (pa_cons (pe_callB call_len_str (by rfl) B.len PySem.boot_len (pa_cons (pv 0) pa_nil)) pa_nil)) (pg_name (i := 4) sc_worst_of.nd rfl (Or.inl rfl))
 (pss_one (ps_for PassesOwn.never rfl (pi_range1 (by rfl) B.range (pa_cons (pe_callB call_len_str (by rfl) B.len PySem.boot_len (pa_cons (pv 1) pa_nil)) pa_nil)) (pg_name (i := 5) sc_worst_of.nd rfl (Or.inl rfl))
 (pss_cons (ps_set (i := 6) sc_worst_of.nd rfl (Or.inl rfl) (pe_callC c_first_of hr (by decide) (pa_cons (pv 0) (pa_cons (pv 4) (pa_cons (pv 1) (pa_cons (pv 5) (pa_cons (pv 2) pa_nil)))))))
 (pss_cons (ps_if (pt_cmpR op_isN (pv 6) pe_non (nomark _)) (pss_one (ps_ret (pe_tup (pa_cons pe_non (pa_cons (pv 4) (pa_cons (pv 5) pa_nil))))))
 pss_nil)
 (pss_one (ps_if (PW.pt (pw_or (pt_cmpR op_isN (pv 3) pe_non (nomark _)) (pw_or1 (pt_cmpR op_gt (pv 6) (pe_ix ix_tup (pv 3) pe_int (fun _ _ => rfl)) (nomark _))))) (pss_one (ps_set (i := 3) sc_worst_of.nd rfl (Or.inl rfl) (pe_tup (pa_cons (pv 6) (pa_cons (pv 4) (pa_cons (pv 5) pa_nil))))))
 pss_nil)))))))
 (pss_one (ps_ret (pv 3))))), ?_⟩
    refine q_asg (v := .non) ev_c fun H1 e1 => ?_
    refine q_forR1 (n := ((p.length : Nat) : Int)) (ea_cons (ev_lenS (p := p) (ev_var rfl) (by omega)) ea_nil) (by omega)
      (fun a σ H' => (∃ v y4 y5 y6, σ = [some (.str (txt p)), some (.str (txt q)), some (.bl l), some v, y4, y5, y6] ∧ isBest K H' v ((upto p q l a).foldl stp none)) ∧ Ex H H' ∧ allMeet (upto p q l a))
      (fun H2 e2 => ⟨⟨.non, _, _, _, rfl, rfl⟩, e1.trans e2, fun r hr => nomatch hr⟩) (fun a σ' H' ha pr => ?_) (fun σ' H' pr => ?_)
    · obtain ⟨⟨v, y4, y5, y6, rfl, hv⟩, e, hm⟩ := pr
      refine s_forR1 (n := ((q.length : Nat) : Int)) (ea_cons (ev_lenS (p := q) (ev_var rfl) (by omega)) ea_nil) (by omega)
        (fun b σ H'' => (∃ v y5 y6, σ = [some (.str (txt p)), some (.str (txt q)), some (.bl l), some v, some (.int (a : Nat)), y5, y6] ∧ isBest K H'' v ((upto p q l a ++ rowA p q l a b).foldl stp none)) ∧ Ex H H'' ∧ allMeet (upto p q l a ++ rowA p q l a b))
        (fun H2 e2 => ⟨⟨v, _, _, rfl, by
          have : upto p q l a ++ rowA p q l a 0 = upto p q l a := by simp [rowA]
          rw [this]
          exact hv.up e2⟩, e.trans e2, by
          have : upto p q l a ++ rowA p q l a 0 = upto p q l a := by simp [rowA]
          rw [this]
          exact hm⟩) (fun b σ'' H'' hb pr => ?_) (fun σ'' H'' pr => ?_)
      · obtain ⟨⟨v, y5, y6, rfl, hv⟩, e, hm⟩ := pr
        refine q_asg (v := oV (first p q l a b)) (ev_call (ea_cons (ev_var rfl) (ea_cons (ev_var rfl) (ea_cons (ev_var rfl) (ea_cons (ev_var rfl) (ea_cons (ev_var rfl) ea_nil))))) fun H1 e Q k E => ⟨p, q, a, b, l, rfl, ⟨hp, hp2⟩, ⟨hq, hq2⟩, k⟩) fun H3 e3 => ?_
        refine q_when (b := (first p q l a b).isNone) (et_is (et_test (ev_isN (ev_var rfl))) (oV_is _)) (fun hn H4 e4 => ?_) (fun hn H4 e4 => ?_)
        · have hf : first p q l a b = none := by simpa using hn
          refine s_retC (K := K) (c := cRow (none, a, b)) (ec_tup (ea_cons ev_c (ea_cons (ev_var rfl) (ea_cons (ev_var rfl) ea_nil))) (by show 3 ≤ 1000; decide)) fun w H5 e5 i5 => ?_
          have hw := worst_never (p := p) (q := q) (l := l) (a := a) (b := b) (by omega) (by omega) (allMeet_app.mp hm).1 (allMeet_app.mp hm).2 hf
          have := k w H5 (((e.trans e3).trans e4).trans e5)
          rw [hw] at this
          exact this i5
        · obtain ⟨m, hf⟩ : ∃ m, first p q l a b = some m := by
            cases h : first p q l a b with
            | none => rw [h] at hn; cases hn
            | some m => exact ⟨m, rfl⟩
          have hv4 := (hv.up e3).up e4
          have hstep : (upto p q l a ++ rowA p q l a (b + 1)).foldl stp none = stp ((upto p q l a ++ rowA p q l a b).foldl stp none) (some m, a, b) := by
            rw [rowA_succ, ← List.append_assoc, List.foldl_append, hf]
            rfl
          have hmeet : allMeet (upto p q l a ++ rowA p q l a (b + 1)) := by
            rw [rowA_succ, ← List.append_assoc]
            refine allMeet_app.mpr ⟨hm, fun r hr => ?_⟩
            have : r = (first p q l a b, a, b) := by simpa using hr
            rw [this, hf]
            exact fun h => nomatch h
          have hE : Ex H H4 := (e.trans e3).trans e4
          cases hbest : (upto p q l a ++ rowA p q l a b).foldl stp none with
          | none =>
            rw [hbest] at hv4 hstep
            have hvn : v = .non := hv4
            subst hvn
            refine s_when (b := true) (et_is (et_or (a := true) (b := true) (et_is (et_test (ev_isN (x := .non) (ev_var rfl))) rfl) (fun h => nomatch h)) rfl) (fun _ H5 e5 => ?_) (fun h => nomatch h)
            refine s_asgC (K := K) (c := .t [oV (first p q l a b), .int (a : Nat), .int (b : Nat)]) (ec_tup (ea_cons (ev_var rfl) (ea_cons (ev_var rfl) (ea_cons (ev_var rfl) ea_nil))) (by show 3 ≤ 1000; decide)) fun w H6 e6 i6 => ?_
            rw [hf] at i6
            refine ⟨⟨w, _, _, rfl, ?_⟩, (hE.trans e5).trans e6, hmeet⟩
            rw [hstep]
            exact ⟨(fun h => nomatch h), i6⟩
          | some r =>
            rw [hbest] at hv4 hstep
            obtain ⟨hr1, hr2⟩ := hv4
            obtain ⟨o, ra, rb⟩ := r
            obtain ⟨m0, rfl⟩ : ∃ m0, o = some m0 := by
              cases o with
              | none => exact absurd rfl hr1
              | some m0 => exact ⟨m0, rfl⟩
            obtain ⟨t, rfl, ht⟩ := id hr2
            refine s_when (b := decide (m0 < m)) (et_is (et_or (a := false) (b := decide (((m0 : Nat) : Int) < (m : Nat))) (et_is (et_test (ev_isN (x := .ref t) (ev_var rfl))) rfl) (fun _ => et_test (ev_op (x := .int (m : Nat)) (ev_is (ev_var rfl) (by rw [hf]; rfl)) (ev_ixC (i := 0) (K := K) (ec_var rfl hr2) ev_c rfl) rv_I0))) (by rw [Bool.false_or]; exact decide_eq_decide.mpr (by omega))) (fun hb5 H5 e5 => ?_) (fun hb5 H5 e5 => ?_)
            · refine s_asgC (K := K) (c := .t [oV (first p q l a b), .int (a : Nat), .int (b : Nat)]) (ec_tup (ea_cons (ev_var rfl) (ea_cons (ev_var rfl) (ea_cons (ev_var rfl) ea_nil))) (by show 3 ≤ 1000; decide)) fun w H6 e6 i6 => ?_
              rw [hf] at i6
              refine ⟨⟨w, _, _, rfl, ?_⟩, (hE.trans e5).trans e6, hmeet⟩
              rw [hstep]
              have : stp (some (some m0, ra, rb)) (some m, a, b) = some (some m, a, b) := if_pos (of_decide_eq_true hb5)
              rw [this]
              exact ⟨(fun h => nomatch h), i6⟩
            · refine ⟨⟨_, _, _, rfl, ?_⟩, hE.trans e5, hmeet⟩
              rw [hstep]
              have : stp (some (some m0, ra, rb)) (some m, a, b) = some (some m0, ra, rb) := if_neg (of_decide_eq_false hb5)
              rw [this]
              exact ⟨hr1, hr2.up e5⟩
      · obtain ⟨⟨v, y5, y6, rfl, hv⟩, e, hm⟩ := pr
        have e0 : upto p q l a ++ rowA p q l a (((q.length : Nat) : Int)).toNat = upto p q l (a + 1) := by rw [upto_succ]; rfl
        rw [e0] at hv hm
        exact ⟨⟨v, _, _, _, rfl, hv⟩, e, hm⟩
    · obtain ⟨⟨v, y4, y5, y6, rfl, hv⟩, e, hm⟩ := pr
      have hm : allMeet (rows p q l) := hm
      have hv : isBest K H' v ((rows p q l).foldl stp none) := hv
      have hw := worst_all hm
      have hne : rows p q l ≠ [] := by
        have := worst_mem (p := p) (q := q) (l := l) hp hq
        intro h
        rw [h] at this
        cases this
      cases hb : (rows p q l).foldl stp none with
      | none =>
        cases hr : rows p q l with
        | nil => exact absurd hr hne
        | cons r rs =>
          rw [hr, List.foldl_cons] at hb
          have hb : rs.foldl stp (some r) = none := hb
          rw [foldl_best] at hb
          cases hb
      | some r =>
        rw [hb] at hv hw
        have hw : worst p q l = r := hw
        refine s_retC (K := K) (ec_var rfl hv.2) fun u H2 e2 i2 => ?_
        have := k u H2 (e.trans e2)
        rw [hw] at this
        exact this i2
end
end Bm
namespace Bm
open PySem PySem.Spec PyProof.Rows L2 Evl
section
variable {P : Program} {w : World} {K : PySem.W.Frag} {mg : PySem.Str → Option Value} {base : Heap}
/-! ### is_better -/
abbrev s_is_better : Stmt := topS 16
theorem sc_is_better : FnScope ["one", "other", "mine", "theirs"] ["one", "other"] (defScope s_is_better) := ⟨rfl, rfl, rfl, by decide +kernel, rfl, by decide +kernel, by decide +kernel⟩
theorem ok_is_better (D : Def1 K mg "is_better" s_is_better) : Cal P w K mg base 1 "is_better" ["one", "other"] (spBetter K) := by
  refine D.cal sc_is_better (fun _ _ _ _ _ _ us hl => match us, hl with | [_, _], _ => rfl) (fun vs H Q E h => ?_) (fun f cdv A outer s H vs Q E hr h => ?_)
  · obtain ⟨v, u, r, s, rfl, _⟩ := h
    rfl
  · obtain ⟨v, u, r, s, rfl, iv, iu, ⟨sr, ss⟩, ⟨br, bs⟩, k⟩ := h
    refine ⟨_, (pss_cons (ps_set (i := 2) sc_is_better.nd rfl (Or.inl rfl) (pe_op op_mul (pe_ix ix_tup (pv 0) pe_int (fun _ _ => rfl)) (pe_ix ix_tup (pv 1) pe_int (fun _ _ => rfl))))
 (pss_cons (ps_set (i := 3) sc_is_better.nd rfl (Or.inl rfl) (pe_op op_mul (pe_ix ix_tup (pv 1) pe_int (fun _ _ => rfl)) (pe_ix ix_tup (pv 0) pe_int (fun _ _ => rfl))))
 (pss_one (ps_ret (pe_and (pe_cmpR op_le (pv 2) (pv 3) (nomark _)) (pe_and (pe_cmpR op_le (pe_ix ix_tup (pv 0) pe_int (fun _ _ => rfl)) (pe_ix ix_tup (pv 1) pe_int (fun _ _ => rfl)) (nomark _)) (pe_one (pe_or (pe_cmpR op_lt (pv 2) (pv 3) (nomark _)) (pe_one (pe_cmpR op_lt (pe_ix ix_tup (pv 0) pe_int (fun _ _ => rfl)) (pe_ix ix_tup (pv 1) pe_int (fun _ _ => rfl)) (nomark _))))))))))), ?_⟩
    have x0 : ∀ {H' : Hp} {y z : Option V}, Ex H H' → EvC K (tVar 0) [some v, some u, y, z] H' (cR r) := fun e => ec_var rfl (iv.up e)
    have x1 : ∀ {H' : Hp} {y z : Option V}, Ex H H' → EvC K (tVar 1) [some v, some u, y, z] H' (cR s) := fun e => ec_var rfl (iu.up e)
    refine q_asg (v := .int ((r.1 * s.2.1 : Nat) : Int)) (ev_mulN (ev_ixC (i := 0) (x0 (Ex.refl H)) ev_c rfl) (ev_ixC (i := 1) (x1 (Ex.refl H)) ev_c rfl) (by omega)) fun H1 e1 => ?_
    refine q_asg (v := .int ((s.1 * r.2.1 : Nat) : Int)) (ev_mulN (ev_ixC (i := 0) (x1 e1) ev_c rfl) (ev_ixC (i := 1) (x0 e1) ev_c rfl) (by omega)) fun H2 e2 => ?_
    have e12 := e1.trans e2
    have w0 : ∀ {H' : Hp} {y z : Option V}, Ex H H' → Ev (tOp (rIxT K) (tVar 0) (tC (.int 2))) [some v, some u, y, z] H' (.int (r.2.2.getD 0 : Nat)) := fun e => ev_ixC (i := 2) (x0 e) ev_c (by rw [← oV_get sr]; rfl)
    have w1 : ∀ {H' : Hp} {y z : Option V}, Ex H H' → Ev (tOp (rIxT K) (tVar 1) (tC (.int 2))) [some v, some u, y, z] H' (.int (s.2.2.getD 0 : Nat)) := fun e => ev_ixC (i := 2) (x1 e) ev_c (by rw [← oV_get ss]; rfl)
    refine s_ret (v := .bl (bett r s)) (ev_is (ev_andV (ev_op (ev_var rfl) (ev_var rfl) rv_I0) (fun _ => ev_andV (ev_op (w0 e12) (w1 e12) rv_I0) (fun _ => ev_orV (ev_op (ev_var rfl) (ev_var rfl) rv_I0) (fun _ => ev_op (w0 e12) (w1 e12) rv_I0)))) ?_) fun H3 e3 => k H3 (e12.trans e3)
    have d1 : ∀ a b : Nat, decide (((a : Nat) : Int) ≤ (b : Nat)) = decide (a ≤ b) := fun a b => decide_eq_decide.mpr (by omega)
    have d2 : ∀ a b : Nat, decide (((a : Nat) : Int) < (b : Nat)) = decide (a < b) := fun a b => decide_eq_decide.mpr (by omega)
    unfold bett
    rw [d1, d1, d2, d2]
/-! ### _law_better -/
abbrev s_law_better : Stmt := topS 25
theorem sc_law_better : FnScope ["_law_one", "_law_other"] ["_law_one", "_law_other"] (defScope s_law_better) := ⟨rfl, rfl, rfl, by decide +kernel, rfl, by decide +kernel, by decide +kernel⟩
theorem ok_law_better (D : Def1 K mg "_law_better" s_law_better) : Cal P w K mg base 1 "_law_better" ["_law_one", "_law_other"] (spBetter K) := by
  refine D.cal sc_law_better (fun _ _ _ _ _ _ us hl => match us, hl with | [_, _], _ => rfl) (fun vs H Q E h => ?_) (fun f cdv A outer s H vs Q E hr h => ?_)
  · obtain ⟨v, u, r, s, rfl, _⟩ := h
    rfl
  · obtain ⟨v, u, r, s, rfl, iv, iu, ⟨sr, ss⟩, ⟨br, bs⟩, k⟩ := h
    refine ⟨_, (pss_cons (ps_if (PW.pt (pw_or (pt_cmpR op_gt (pe_op op_mul (pe_ix ix_tup (pv 0) pe_int (fun _ _ => rfl)) (pe_ix ix_tup (pv 1) pe_int (fun _ _ => rfl))) (pe_op op_mul (pe_ix ix_tup (pv 1) pe_int (fun _ _ => rfl)) (pe_ix ix_tup (pv 0) pe_int (fun _ _ => rfl))) (nomark _)) (pw_or1 (pt_cmpR op_gt (pe_ix ix_tup (pv 0) pe_int (fun _ _ => rfl)) (pe_ix ix_tup (pv 1) pe_int (fun _ _ => rfl)) (nomark _))))) (pss_one (ps_ret pe_bl))
 pss_nil)
 (pss_one (ps_ret (pe_or (pe_cmpR op_lt (pe_op op_mul (pe_ix ix_tup (pv 0) pe_int (fun _ _ => rfl)) (pe_ix ix_tup (pv 1) pe_int (fun _ _ => rfl))) (pe_op op_mul (pe_ix ix_tup (pv 1) pe_int (fun _ _ => rfl)) (pe_ix ix_tup (pv 0) pe_int (fun _ _ => rfl))) (nomark _)) (pe_one (pe_cmpR op_lt (pe_ix ix_tup (pv 0) pe_int (fun _ _ => rfl)) (pe_ix ix_tup (pv 1) pe_int (fun _ _ => rfl)) (nomark _))))))), ?_⟩
    have x0 : ∀ {H' : Hp}, Ex H H' → EvC K (tVar 0) [some v, some u] H' (cR r) := fun e => ec_var rfl (iv.up e)
    have x1 : ∀ {H' : Hp}, Ex H H' → EvC K (tVar 1) [some v, some u] H' (cR s) := fun e => ec_var rfl (iu.up e)
    have m0 : ∀ {H' : Hp}, Ex H H' → Ev (tOp (rI CMul fun i j => .int (i * j)) (tOp (rIxT K) (tVar 0) (tC (.int 0))) (tOp (rIxT K) (tVar 1) (tC (.int 1)))) [some v, some u] H' (.int ((r.1 * s.2.1 : Nat) : Int)) := fun e => ev_mulN (ev_ixC (i := 0) (x0 e) ev_c rfl) (ev_ixC (i := 1) (x1 e) ev_c rfl) (by omega)
    have m1 : ∀ {H' : Hp}, Ex H H' → Ev (tOp (rI CMul fun i j => .int (i * j)) (tOp (rIxT K) (tVar 1) (tC (.int 0))) (tOp (rIxT K) (tVar 0) (tC (.int 1)))) [some v, some u] H' (.int ((s.1 * r.2.1 : Nat) : Int)) := fun e => ev_mulN (ev_ixC (i := 0) (x1 e) ev_c rfl) (ev_ixC (i := 1) (x0 e) ev_c rfl) (by omega)
    have w0 : ∀ {H' : Hp}, Ex H H' → Ev (tOp (rIxT K) (tVar 0) (tC (.int 2))) [some v, some u] H' (.int (r.2.2.getD 0 : Nat)) := fun e => ev_ixC (i := 2) (x0 e) ev_c (by rw [← oV_get sr]; rfl)
    have w1 : ∀ {H' : Hp}, Ex H H' → Ev (tOp (rIxT K) (tVar 1) (tC (.int 2))) [some v, some u] H' (.int (s.2.2.getD 0 : Nat)) := fun e => ev_ixC (i := 2) (x1 e) ev_c (by rw [← oV_get ss]; rfl)
    have d2 : ∀ a b : Nat, decide (((a : Nat) : Int) < (b : Nat)) = decide (a < b) := fun a b => decide_eq_decide.mpr (by omega)
    refine q_when (b := decide (s.1 * r.2.1 < r.1 * s.2.1) || decide (s.2.2.getD 0 < r.2.2.getD 0)) (et_is (et_or (et_test (ev_op (m0 (Ex.refl H)) (m1 (Ex.refl H)) rv_I0)) (fun _ => et_test (ev_op (w0 (Ex.refl H)) (w1 (Ex.refl H)) rv_I0))) (by rw [d2, d2])) (fun hb H1 e1 => ?_) (fun hb H1 e1 => ?_)
    · refine s_ret (v := .bl (bett r s)) (ev_is ev_c ?_) fun H2 e2 => k H2 (e1.trans e2)
      congr 1
      cases hh : bett r s with
      | false => rfl
      | true =>
        obtain ⟨h1, h2, _⟩ := (bett_iff r s).mp hh
        rw [Bool.or_eq_true, decide_eq_true_eq, decide_eq_true_eq] at hb
        omega
    · refine s_ret (v := .bl (bett r s)) (ev_is (ev_orV (ev_op (m0 e1) (m1 e1) rv_I0) (fun _ => ev_op (w0 e1) (w1 e1) rv_I0)) ?_) fun H2 e2 => k H2 (e1.trans e2)
      rw [Bool.or_eq_false_iff, decide_eq_false_iff_not, decide_eq_false_iff_not] at hb
      unfold bett
      rw [d2, d2, decide_eq_true (p := r.1 * s.2.1 ≤ s.1 * r.2.1) (by omega), decide_eq_true (p := r.2.2.getD 0 ≤ s.2.2.getD 0) (by omega)]
      rfl
end
end Bm
namespace Bm
open PySem PySem.Spec PyProof.Rows L2 Evl
section
variable {P : Program} {w : World} {K : PySem.W.Frag} {mg : PySem.Str → Option Value} {base : Heap}
/-! ### front -/
abbrev s_front : Stmt := topS 15
theorem sc_front : FnScope ["patterns", "number", "pattern", "rows", "some", "one", "other"] ["patterns"] (defScope s_front) := ⟨rfl, rfl, rfl, by decide +kernel, rfl, by decide +kernel, by decide +kernel⟩
def spFront (K : PySem.W.Frag) : Sp := fun vs H Q _ => ∃ (a : Addr) (ps : List (List Bool)), vs = [.ref a] ∧ SqL K H a (ps.map fun p => V.str (txt p)) ∧ (∀ p ∈ ps, Pat 12 p) ∧ ps.length ≤ 1000 ∧ RetL (natsV (frontL (ps.map rowOf))) H Q
theorem rowOf_lo {p : List Bool} (h : Pat 12 p) : (rowOf p).1 ≤ 1000 := by
  show (onesV p).length ≤ 1000
  have := onesV_len p
  have := h.hi
  omega
theorem getD_rows (ps : List (List Bool)) (k : Nat) (hk : k < ps.length) : ((ps.map rowOf).map cR)[k]? = some (cR ((ps.map rowOf).getD k r0)) := by
  rw [List.getElem?_map, List.getD_eq_getElem?_getD, List.getElem?_map, List.getElem?_eq_getElem hk]
  rfl
theorem rows_lo {ps : List (List Bool)} (hp : ∀ p ∈ ps, Pat 12 p) (k : Nat) : ((ps.map rowOf).getD k r0).1 ≤ 1000 := by
  rw [List.getD_eq_getElem?_getD, List.getElem?_map]
  cases h : ps[k]? with
  | none => exact Nat.zero_le _
  | some p => exact rowOf_lo (hp p (List.mem_of_getElem? h))
theorem rows_pos {ps : List (List Bool)} (hp : ∀ p ∈ ps, Pat 12 p) : ∀ k, k < (ps.map rowOf).length → 0 < ((ps.map rowOf).getD k r0).2.1 := fun k hk => by
  rw [List.length_map] at hk
  rw [List.getD_eq_getElem?_getD, List.getElem?_map, List.getElem?_eq_getElem hk]
  exact (hp _ (List.getElem_mem hk)).lo
theorem nats_at {ks : List Nat} {i : Nat} {c : Cel} (h : ((natsV ks).map Cel.v)[i]? = some c) : ∃ k, ks[i]? = some k ∧ c = .v (.int (k : Nat)) := by
  unfold natsV at h
  rw [List.map_map, List.getElem?_map] at h
  cases e : ks[i]? with
  | none => rw [e] at h; cases h
  | some k => rw [e] at h; exact ⟨k, rfl, (Option.some.inj h).symm⟩
theorem nats_ok (ks : List Nat) : ((natsV ks).map Cel.v).all okC = true := by
  unfold natsV
  rw [List.map_map, List.all_map, List.all_eq_true]
  intro _ _
  rfl
theorem given_nats (ks : List Nat) (F : Nat → Bool) : givenC ((natsV ks).map Cel.v).length (fun i => F (ks.getD i 0)) (fun i => ((natsV ks).map Cel.v).getD i (.v .non)) = (natsV (ks.filter F)).map Cel.v := by
  unfold givenC natsV
  rw [List.length_map, List.length_map]
  have er : ks = (List.range ks.length).map fun i => ks.getD i 0 := by
    apply List.ext_getElem
    · simp
    · intro i h1 h2
      simp [List.getD_eq_getElem?_getD, List.getElem?_eq_getElem h1]
  have er2 : ks.filter F = ((List.range ks.length).filter fun i => F (ks.getD i 0)).map fun i => ks.getD i 0 := by
    conv => lhs; rw [er]
    rw [List.filter_map]
    rfl
  rw [er2, List.map_map, List.map_map, List.map_map]
  refine List.map_congr_left fun i hi => ?_
  have hi : i < ks.length := by
    have := (List.mem_filter.mp hi).1
    simpa using this
  show (ks.map (Cel.v ∘ fun k : Nat => V.int (k : Nat))).getD i (.v .non) = .v (.int (ks.getD i 0 : Nat))
  rw [List.getD_eq_getElem?_getD, List.getD_eq_getElem?_getD, List.getElem?_map, List.getElem?_eq_getElem hi]
  rfl
theorem sure_given (rs : List R3) : given rs.length (fun k => (rs.getD k r0).2.2.isSome) (fun k => .int (k : Nat)) = natsV (sure rs) := rfl
theorem ok_front (D : Def1 K mg "front" s_front) (B : Bl mg) (c_fault_of : Cal P w K mg base 1 "fault_of" ["pattern"] spFault) (c_awake_of : Cal P w K mg base 1 "awake_of" ["pattern"] spOnes) (c_worst_of : Cal P w K mg base 3 "worst_of" ["one", "other", "loose"] (spWorst K)) (c_is_better : Cal P w K mg base 1 "is_better" ["one", "other"] (spBetter K)) :
    Cal P w K mg base 4 "front" ["patterns"] (spFront K) := by
  refine D.cal sc_front (fun _ _ _ _ _ _ us hl => match us, hl with | [_], _ => rfl) (fun vs H Q E h => ?_) (fun f cdv A outer s H vs Q E hr h => ?_)
  · obtain ⟨a, ps, rfl, _⟩ := h
    rfl
  · obtain ⟨a, ps, rfl, hS, hp, hl, k⟩ := h
    refine ⟨_, (pss_cons (ps_for PassesOwn.never rfl (pi_enum (by rfl) B.enumerate (pa_cons (pv 0) pa_nil)) (pg_tup rfl (pgs_cons (pg_name (i := 1) sc_front.nd rfl (Or.inl rfl)) (pgs_cons (pg_name (i := 2) sc_front.nd rfl (Or.inl rfl)) pgs_nil)))
 (pss_one (ps_if (pt_cmpR op_notN (pe_callC c_fault_of hr (by decide) (pa_cons (pv 2) pa_nil)) pe_non (nomark _)) pss_never
 pss_nil)))
 (pss_cons (ps_set (i := 3) sc_front.nd rfl (Or.inr rfl) (pe_lc (own := [("one", 5)]) (g := gName 5) rfl sc_front.nd (pi_list (pv 0)) (blkOk_by (N := ["patterns", "number", "pattern", "rows", "some", "one", "other"]) (sc := defScope s_front) (by decide +kernel)) (fun _ _ _ _ _ => (pg_name (i := 5) sc_front.nd rfl (Or.inl rfl))) (fun _ _ _ _ _ => pts_nil) (fun _ _ _ _ _ => (pe_tup (pa_cons (pe_callB (r := rLenS K) call_len_seq (by rfl) B.len PySem.boot_len (pa_cons (pe_callC c_awake_of hr (by decide) (pa_cons (pv 5) pa_nil)) pa_nil)) (pa_cons (pe_callB call_len_str (by rfl) B.len PySem.boot_len (pa_cons (pv 5) pa_nil)) (pa_cons (pe_ix (r := rIxT K) ix_tup (pe_callC c_worst_of hr (by decide) (pa_cons (pv 5) (pa_cons (pv 5) (pa_cons pe_bl pa_nil)))) pe_int (fun _ _ => rfl)) pa_nil)))))))
 (pss_cons (ps_set (i := 4) sc_front.nd rfl (Or.inr rfl) (pe_lc (own := [("number", 1)]) (g := gName 1) rfl sc_front.nd (pi_range1 (by rfl) B.range (pa_cons (pe_callB call_len_seq (by rfl) B.len PySem.boot_len (pa_cons (pv 0) pa_nil)) pa_nil)) (blkOk_by (N := ["patterns", "number", "pattern", "rows", "some", "one", "other"]) (sc := defScope s_front) (by decide +kernel)) (fun _ _ _ _ _ => (pg_name (i := 1) sc_front.nd rfl (Or.inl rfl))) (fun _ _ _ _ _ => (pts_one (pt_cmpR op_notN (pe_ix (r := rIxT K) ix_tup (pe_ix (r := rIxL K) ix_list (pv 3) (pv 1) (fun _ _ => rfl)) pe_int (fun _ _ => rfl)) pe_non (nomark _)))) (fun _ _ _ _ _ => (pv 1))))
 (pss_one (ps_ret (pe_lc (own := [("number", 1)]) (g := gName 1) rfl sc_front.nd (pi_list (pv 4)) (blkOk_by (N := ["patterns", "number", "pattern", "rows", "some", "one", "other"]) (sc := defScope s_front) (by decide +kernel)) (fun _ _ _ _ _ => (pg_name (i := 1) sc_front.nd rfl (Or.inr rfl))) (fun _ _ _ _ _ => (pts_one (pt_cmpR (r := rEqD K) (op_eqD hr.units) (pe_lc (own := [("other", 6)]) (g := gName 6) rfl sc_front.nd (pi_listK K rfl (pv 4)) (blkOk_by (by rfl)) (fun _ _ _ _ _ => (pg_name (i := 6) sc_front.nd rfl (Or.inl rfl))) (fun _ _ _ _ _ => (pts_one (pt_val (pe_callC c_is_better hr (by decide) (pa_cons (pe_ix (r := rIxL K) ix_list (pv 3) (pv 6) (fun _ _ => rfl)) (pa_cons (pe_ix (r := rIxL K) ix_list (pv 3) (pv 1) (fun _ _ => rfl)) pa_nil)))))) (fun _ _ _ _ _ => (pv 6))) (pe_lst pa_nil) (nomark _)))) (fun _ _ _ _ _ => (pv 1)))))))), ?_⟩
    have hget : ∀ (i : Nat) (x : V), (ps.map fun p => V.str (txt p))[i]? = some x → ∃ p, ps[i]? = some p ∧ x = V.str (txt p) := fun i x h => by
      rw [List.getElem?_map] at h
      cases e : ps[i]? with
      | none => rw [e] at h; cases h
      | some p => rw [e] at h; exact ⟨p, rfl, (Option.some.inj h).symm⟩
    refine s_forEL (K := K) (D := { nx := _, rt := _ }) (ea_cons (ev_var rfl) ea_nil) hS (fun i σ H' => (∃ y1 y2, σ = [some (.ref a), y1, y2, none, none, none, none]) ∧ Ex H H') (fun H1 e => ⟨⟨_, _, rfl⟩, e⟩) (fun i σ' H' _ p => ex_l p.2 hS) (fun i T x σ' H' hx p hT => ?_) (fun σ' H' p => ?_)
    · obtain ⟨⟨y1, y2, rfl⟩, e⟩ := p
      obtain ⟨q, hq, rfl⟩ := hget i x hx
      have hq := hp q (List.mem_of_getElem? hq)
      have hq1 := hq.hi
      refine g_two ?_
      exact s_when (b := false) (et_is (et_test (ev_notN (x := .non) (ev_call (ea_cons (ev_var rfl) ea_nil) fun H1 e Q k E => ⟨txt q, rfl, by rw [txt_len]; omega, by rw [fault_txt hq]; exact k⟩))) rfl) (fun hb => nomatch hb) (fun _ H2 e2 => ⟨⟨_, _, rfl⟩, (e.trans (Ex.new hT)).trans e2⟩)
    · obtain ⟨⟨y1, y2, rfl⟩, e⟩ := p
      -- rows
      have hall : IsAll K H' (ps.map fun p => V.str (txt p)) (ps.map fun p => Cel.v (.str (txt p))) := by
        have := vals_pr (K := K) (H := H') (ps.map fun p => V.str (txt p))
        rw [List.map_map] at this
        exact this
      have en := en_lcL (K := K) (t := tYes) (te := tTup (tCons (tCB (rLenS K) (tCons (tCall spOnes [] E0 (tCons (tVar 5) tNil)) tNil)) (tCons (tCB rLenStr (tCons (tVar 5) tNil)) (tCons (tOp (rIxT K) (tCall (spWorst K) [] E0 (tCons (tVar 5) (tCons (tVar 5) (tCons (tC (.bl false)) tNil)))) (tC (.int 0))) tNil)))) (tl := tVar 0) (a := a) (cs := ps.map fun p => Cel.v (.str (txt p))) (j := 5) (vs := [5]) (σ := [some (.ref a), y1, y2, none, none, none, none]) (H := H') (fun _ => true) (fun i => cR ((ps.map rowOf).getD i r0))
        (ev_var rfl) (ex_l e hS) hall (by rw [List.length_map]; omega) (fun _ => rfl) (fun i x c H3 e3 hc hi => fun H4 e4 Q q => q H4 (Ex.refl H4)) (fun i x c H3 e3 hc hi _ => by
          rw [List.getElem?_map] at hc
          cases hpi : ps[i]? with
          | none => rw [hpi] at hc; cases hc
          | some q =>
            rw [hpi] at hc
            cases hc
            have hx : x = .str (txt q) := hi
            subst hx
            have hq := hp q (List.mem_of_getElem? hpi)
            have hq0 := hq.lo
            have hq1 := hq.hi
            have er : (ps.map rowOf).getD i r0 = rowOf q := by
              rw [List.getD_eq_getElem?_getD, List.getElem?_map, hpi]
              rfl
            rw [er]
            exact ec_tup (ea_cons (ev_lenN (K := K) (xs := onesV q) (el_call (ea_cons (ev_var rfl) ea_nil) fun H1 e Q k E => ⟨q, rfl, by omega, k⟩)) (ea_cons (ev_lenS (p := q) (ev_var rfl) (by omega)) (ea_cons (ev_ixC (i := 0) (K := K) (ec_call (c := cRow (worst q q false)) (ea_cons (ev_var rfl) (ea_cons (ev_var rfl) (ea_cons ev_c ea_nil))) fun H1 e Q k => ⟨q, q, false, rfl, ⟨by omega, by omega⟩, ⟨by omega, by omega⟩, k⟩) ev_c rfl) ea_nil))) (by show 3 ≤ 1000; decide))
      have e0 : givenC (ps.map fun p => Cel.v (.str (txt p))).length (fun _ => true) (fun i => cR ((ps.map rowOf).getD i r0)) = (ps.map rowOf).map cR := by
        unfold givenC
        rw [List.filter_eq_self.mpr (fun _ _ => rfl), List.length_map]
        apply List.ext_getElem
        · simp
        · intro i h1 h2
          have hi : i < ps.length := by simpa using h1
          simp [List.getD_eq_getElem?_getD, List.getElem?_eq_getElem hi]
      rw [e0] at en
      refine q_asgN (K := K) en fun rl rx H1 _ e1 h1 i1 => ?_
      have e01 := e.trans e1
      -- some
      have el := el_lcR1 (ta := tCons (tCB (rLenS K) (tCons (tVar 0) tNil)) tNil) (t := tTest (tOp rNotN (tOp (rIxT K) (tOp (rIxL K) (tVar 3) (tVar 1)) (tC (.int 2))) (tC .non))) (te := tVar 1) (j := 1) (vs := [1]) (σ := [some (.ref a), y1, y2, some (.ref rl), none, none, none]) (H := H1) (n := ((ps.length : Nat) : Int)) (fun k => ((ps.map rowOf).getD k r0).2.2.isSome) (fun k => .int (k : Nat))
        (ea_cons (ev_is (ev_len (K := K) (ev_var rfl) (ex_l e01 hS)) (by rw [List.length_map])) ea_nil) (by omega) (fun _ => rfl) (fun i H3 e3 hb => by
          refine et_is (et_test (ev_notN (ev_ixC (i := 2) (K := K) (v := oV ((ps.map rowOf).getD i r0).2.2) (ec_ixL (K := K) (ev_var rfl) (sq_of (e3 _ _ h1)) (i1.up e3) (ev_var rfl) (getD_rows ps i (by omega))) ev_c rfl))) ?_
          rw [oV_is]
          cases ((ps.map rowOf).getD i r0).2.2 <;> rfl) (fun i H3 e3 hb _ => ev_var rfl)
      have e0s : given (((ps.length : Nat) : Int)).toNat (fun k => ((ps.map rowOf).getD k r0).2.2.isSome) (fun k => .int (k : Nat)) = natsV (sure (ps.map rowOf)) := by
        have := sure_given (ps.map rowOf)
        rw [List.length_map] at this
        exact this
      rw [e0s] at el
      refine q_asgL el fun sl H2 _ e2 h2 => ?_
      have e02 := e01.trans e2
      have hsl : (natsV (sure (ps.map rowOf))).length ≤ 1000 := by
        unfold natsV sure
        rw [List.length_map]
        have := List.length_filter_le (fun k => ((ps.map rowOf).getD k r0).2.2.isSome) (List.range (ps.map rowOf).length)
        have h2 : (List.range (ps.map rowOf).length).length = ps.length := by simp
        omega
      have hsure : ∀ {i k : Nat}, (sure (ps.map rowOf))[i]? = some k → k < ps.length ∧ ((ps.map rowOf).getD k r0).2.2.isSome = true := fun h => by
        have := mem_sure.mp (List.mem_of_getElem? h)
        rw [List.length_map] at this
        exact this
      have inner : ∀ (kk : Nat) (H3 : Hp) (y2 : Option V), Ex H2 H3 → kk < ps.length → ((ps.map rowOf).getD kk r0).2.2.isSome = true → EvN K (tLc (iList K (tVar 4)) (gName 6) (tB (tCall (spBetter K) [] E0 (tCons (tOp (rIxL K) (tVar 3) (tVar 6)) (tCons (tOp (rIxL K) (tVar 3) (tVar 1)) tNil)))) (tVar 6) [6]) [some (.ref a), some (.int (kk : Nat)), y2, some (.ref rl), some (.ref sl), none, none] H3 ((natsV ((sure (ps.map rowOf)).filter fun j => bett ((ps.map rowOf).getD j r0) ((ps.map rowOf).getD kk r0))).map Cel.v) := fun kk H3 y2 e3 hkk hsk => by
        have en2 := en_lcL (K := K) (t := tB (tCall (spBetter K) [] E0 (tCons (tOp (rIxL K) (tVar 3) (tVar 6)) (tCons (tOp (rIxL K) (tVar 3) (tVar 1)) tNil)))) (te := tVar 6) (tl := tVar 4) (a := sl) (xs := natsV (sure (ps.map rowOf))) (cs := (natsV (sure (ps.map rowOf))).map Cel.v) (j := 6) (vs := [6]) (σ := [some (.ref a), some (.int (kk : Nat)), y2, some (.ref rl), some (.ref sl), none, none]) (H := H3) (fun i => bett ((ps.map rowOf).getD ((sure (ps.map rowOf)).getD i 0) r0) ((ps.map rowOf).getD kk r0)) (fun i => ((natsV (sure (ps.map rowOf))).map Cel.v).getD i (.v .non))
          (ev_var rfl) (sq_of (e3 _ _ h2)) (vals_pr _) (by rw [List.length_map]; omega) (fun _ => rfl) (fun i x c H4 e4 hc hi => by
            obtain ⟨jj, hjj, rfl⟩ := nats_at hc
            have hx : x = .int (jj : Nat) := hi
            subst hx
            have eg : (sure (ps.map rowOf)).getD i 0 = jj := by
              rw [List.getD_eq_getElem?_getD, hjj]
              rfl
            rw [eg]
            obtain ⟨hj1, hj2⟩ := hsure hjj
            have e14 := (e2.trans e3).trans e4
            refine et_B (ev_callC2 (K := K) (c := cR ((ps.map rowOf).getD jj r0)) (c' := cR ((ps.map rowOf).getD kk r0)) (ec_ixL (K := K) (ev_var rfl) (sq_of (e14 _ _ h1)) (i1.up e14) (ev_var rfl) (getD_rows ps jj hj1)) (fun H5 e5 => ec_ixL (K := K) (ev_var rfl) (sq_of ((e14.trans e5) _ _ h1)) (i1.up (e14.trans e5)) (ev_var rfl) (getD_rows ps kk hkk)) fun v w H5 e5 iv iw H6 e6 Q k E => ⟨v, w, _, _, rfl, iv.up e6, iw.up e6, ⟨hj2, hsk⟩, ⟨rows_lo hp _, rows_lo hp _⟩, k⟩)) (fun i x c H4 e4 hc hi _ => by
            rw [List.getD_eq_getElem?_getD, hc]
            exact ec_var rfl hi)
        rw [given_nats (sure (ps.map rowOf)) (fun j => bett ((ps.map rowOf).getD j r0) ((ps.map rowOf).getD kk r0))] at en2
        exact en2
      have en3 := en_lcL (K := K) (t := tTest (tOp (rEqD K) (tLc (iList K (tVar 4)) (gName 6) (tB (tCall (spBetter K) [] E0 (tCons (tOp (rIxL K) (tVar 3) (tVar 6)) (tCons (tOp (rIxL K) (tVar 3) (tVar 1)) tNil)))) (tVar 6) [6]) (tLst tNil))) (te := tVar 1) (tl := tVar 4) (a := sl) (xs := natsV (sure (ps.map rowOf))) (cs := (natsV (sure (ps.map rowOf))).map Cel.v) (j := 1) (vs := [1]) (σ := [some (.ref a), y1, y2, some (.ref rl), some (.ref sl), none, none]) (H := H2) (fun i => ((sure (ps.map rowOf)).filter fun j => bett ((ps.map rowOf).getD j r0) ((ps.map rowOf).getD ((sure (ps.map rowOf)).getD i 0) r0)).isEmpty) (fun i => ((natsV (sure (ps.map rowOf))).map Cel.v).getD i (.v .non))
        (ev_var rfl) (sq_of h2) (vals_pr _) (by rw [List.length_map]; omega) (fun _ => rfl) (fun i x c H4 e4 hc hi => by
          obtain ⟨kk, hkk, rfl⟩ := nats_at hc
          have hx : x = .int (kk : Nat) := hi
          subst hx
          have eg : (sure (ps.map rowOf)).getD i 0 = kk := by
            rw [List.getD_eq_getElem?_getD, hkk]
            rfl
          rw [eg]
          obtain ⟨hj1, hj2⟩ := hsure hkk
          refine et_is (et_test (ev_nilN (inner kk H4 y2 e4 hj1 hj2) (nats_ok _))) ?_
          show (((sure (ps.map rowOf)).filter fun j => bett ((ps.map rowOf).getD j r0) ((ps.map rowOf).getD kk r0)).map (fun k => V.int (k : Nat)) |>.map Cel.v).isEmpty = _
          rw [List.isEmpty_map, List.isEmpty_map]) (fun i x c H4 e4 hc hi _ => by
          rw [List.getD_eq_getElem?_getD, hc]
          exact ec_var rfl hi)
      rw [given_nats (sure (ps.map rowOf)) (fun kk => ((sure (ps.map rowOf)).filter fun j => bett ((ps.map rowOf).getD j r0) ((ps.map rowOf).getD kk r0)).isEmpty)] at en3
      exact s_retL (el_en en3) fun p2 H3 hp2 e3 h3 => k p2 H3 (fresh_back e02 hp2) (e02.trans e3) h3
end
end Bm
namespace Bm
open PySem PySem.Spec PyProof.Rows L2 Evl
section
variable {P : Program} {w : World} {K : PySem.W.Frag} {mg : PySem.Str → Option Value} {base : Heap}
/-! ### _law_dice -/
abbrev s_law_dice : Stmt := topS 18
theorem sc_law_dice : FnScope ["_law_script", "_law_k", "_law_found", "_law_cell"] ["_law_script", "_law_k"] (defScope s_law_dice) := ⟨rfl, rfl, rfl, by decide +kernel, rfl, by decide +kernel, by decide +kernel⟩
def spDice (K : PySem.W.Frag) : Sp := fun vs H Q _ => ∃ (a : Addr) (ns : List Int) (k : Int), vs = [.ref a, .int k] ∧ SqL K H a (ns.map V.int) ∧ ns.length ≤ 1000 ∧
  ∀ (D : Addr) (ds : List Int) (H2 : Hp), H D = none → Ex H H2 → 2 ≤ ds.length → H2 D = some (.lst (ds.map V.int)) → Q (.ref D) H2
theorem ok_law_dice (D : Def1 K mg "_law_dice" s_law_dice) (B : Bl mg) : Cal P w K mg base 1 "_law_dice" ["_law_script", "_law_k"] (spDice K) := by
  refine D.cal sc_law_dice (fun _ _ _ _ _ _ us hl => match us, hl with | [_, _], _ => rfl) (fun vs H Q E h => ?_) (fun f cdv A outer s H vs Q E hr h => ?_)
  · obtain ⟨a, ns, k, rfl, _⟩ := h
    rfl
  · obtain ⟨a, ns, k, rfl, hS, hl, kk⟩ := h
    refine ⟨_, (pss_cons (ps_set (i := 2) sc_law_dice.nd rfl (Or.inl rfl) (pv 1))
 (pss_cons (ps_for PassesOwn.never rfl (pi_list (pv 0)) (pg_name (i := 3) sc_law_dice.nd rfl (Or.inl rfl))
 (pss_one (ps_set (i := 2) sc_law_dice.nd rfl (Or.inl rfl) (pe_op op_mod (pe_op op_add (pe_op op_mul (pv 2) pe_int) (pe_callB call_abs (by rfl) B.abs (by decide +kernel) (pa_cons (pv 3) pa_nil))) pe_int))))
 (pss_one (ps_ret (pe_op op_cat (pe_lst (pa_cons (pv 2) (pa_cons pe_int pa_nil))) (pe_lc (own := [("_law_cell", 3)]) (g := gName 3) rfl sc_law_dice.nd (pi_list (pv 0)) (blkOk_by (N := ["_law_script", "_law_k", "_law_found", "_law_cell"]) (sc := defScope s_law_dice) (by decide +kernel)) (fun _ _ _ _ _ => (pg_name (i := 3) sc_law_dice.nd rfl (Or.inl rfl))) (fun _ _ _ _ _ => (pts_one (pt_cmpR op_ge (pv 3) (pe_op op_pow pe_int pe_int) (nomark _)))) (fun _ _ _ _ _ => (pv 3)))))))), ?_⟩
    refine q_asg (v := .int k) (ev_var rfl) fun H1 e1 => ?_
    refine q_forLn (a := a) (xs := ns.map V.int) (K := K) (ev_var rfl) (ex_l e1 hS) (fun i σ H' => (∃ z y, σ = [some (.ref a), some (.int k), some (.int z), y]) ∧ Ex H H') (fun H2 e2 => ⟨⟨k, _, rfl⟩, e1.trans e2⟩) (fun i σ' H' _ p => ex_l p.2 hS) (fun i x σ' H' hx p => ?_) (fun σ' H' p => ?_)
    · obtain ⟨⟨z, y, rfl⟩, e⟩ := p
      obtain ⟨m, rfl⟩ : ∃ m, x = V.int m := by
        rw [List.getElem?_map] at hx
        cases h : ns[i]? with
        | none => rw [h] at hx; cases hx
        | some m => rw [h] at hx; exact ⟨m, (Option.some.inj hx).symm⟩
      refine s_asg (ev_op (ev_op (ev_op (ev_var rfl) ev_c (rv_I (Or.inr ⟨by decide, by decide⟩))) (ev_cb (ea_cons (ev_var rfl) ea_nil) fun H1 _ _ q => ⟨m, rfl, q H1 (Ex.refl H1)⟩) rv_I0) ev_c (rv_I (by decide))) fun H2 e2 => ?_
      exact ⟨⟨_, _, rfl⟩, e.trans e2⟩
    · obtain ⟨⟨z, y, rfl⟩, e⟩ := p
      refine s_retL (el_cat (el_lst (ea_cons (ev_var rfl) (ea_cons ev_c ea_nil)) (by show 2 ≤ 100000; decide)) (el_lcL (K := K) (a := a) (xs := ns.map V.int) (fun i => decide ((10 : Int) ^ ((18 : Int).toNat) ≤ ns.getD i 0)) (fun i => .int (ns.getD i 0)) (ev_var rfl) (ex_l e hS) (by rw [List.length_map]; omega) (fun _ => rfl) (fun i x H1 e1 hx => ?_) (fun i x H1 e1 hx _ => ?_)) ?_) ?_
      · have hx' : x = .int (ns.getD i 0) := by
          rw [List.getElem?_map] at hx
          rw [List.getD_eq_getElem?_getD]
          cases h : ns[i]? with
          | none => rw [h] at hx; cases hx
          | some m => rw [h] at hx; exact (Option.some.inj hx).symm
        subst hx'
        exact et_test (ev_op (ev_var rfl) (ev_op ev_c ev_c (rv_I ⟨by decide, by decide, by decide⟩)) rv_I0)
      · have hx' : x = .int (ns.getD i 0) := by
          rw [List.getElem?_map] at hx
          rw [List.getD_eq_getElem?_getD]
          cases h : ns[i]? with
          | none => rw [h] at hx; cases hx
          | some m => rw [h] at hx; exact (Option.some.inj hx).symm
        subst hx'
        exact ev_var rfl
      · have := given_len (ns.map V.int).length (fun i => decide ((10 : Int) ^ ((18 : Int).toNat) ≤ ns.getD i 0)) (fun i => .int (ns.getD i 0))
        rw [List.length_map] at this ⊢
        show 2 + _ ≤ _
        omega
      · intro p H2 hp e2 h2
        refine kk p (z :: 0 :: ((List.range ns.length).filter (fun i => decide ((10 : Int) ^ ((18 : Int).toNat) ≤ ns.getD i 0))).map fun i => ns.getD i 0) H2 (fresh_back e hp) (e.trans e2) (by simp) ?_
        rw [h2]
        congr 2
        show V.int z :: V.int 0 :: given _ _ _ = V.int z :: V.int 0 :: _
        unfold given
        rw [List.length_map, List.map_map]
        rfl
/-! ### _law_off -/
abbrev s_law_off : Stmt := topS 19
theorem sc_law_off : FnScope ["_law_d", "_law_most", "_law_found"] ["_law_d", "_law_most"] (defScope s_law_off) := ⟨rfl, rfl, rfl, by decide +kernel, rfl, by decide +kernel, by decide +kernel⟩
def spOff : Sp := fun vs H Q _ => ∃ (D : Addr) (ds : List Int) (m : Nat), vs = [.ref D, .int (m : Nat)] ∧ (0 < m ∧ m ≤ 1000000) ∧ 2 ≤ ds.length ∧ H D = some (.lst (ds.map V.int)) ∧
  ∀ (r : Nat) (ds' : List Int) (H2 : Hp), r < m → 2 ≤ ds'.length → ExB D H H2 → H2 D = some (.lst (ds'.map V.int)) → Q (.int (r : Nat)) H2
theorem off_of {D : Addr} {G H : Hp} {m : Nat} {Q : VK} {E : XK} (d : DD D G H) (hm : 0 < m ∧ m ≤ 1000000) (k : ∀ (r : Nat) (H2 : Hp), r < m → ExB D H H2 → DD D G H2 → Q (.int (r : Nat)) H2) : spOff [.ref D, .int (m : Nat)] H Q E := by
  obtain ⟨ds, h2, h⟩ := d.at_
  exact ⟨D, ds, m, rfl, hm, h2, h, fun r ds' H2 hr h2' e h' => k r H2 hr e (d.b e h2' h')⟩
theorem r_off {σ : L2.St} {ta : TA} {D : Addr} {G H : Hp} {m : Nat} {Q : VK} (d : DD D G H) (hm : 0 < m ∧ m ≤ 1000000) (h : EvA ta σ H [.ref D, .int (m : Nat)]) (k : ∀ (r : Nat) (H2 : Hp), r < m → ExB D H H2 → DD D G H2 → Q (.int (r : Nat)) H2) : tCall spOff [] E0 ta σ H Q :=
  h H (Ex.refl H) _ fun H1 e1 => off_of (d.up e1) hm fun r H2 hr e2 d2 => k r H2 hr ((Ex.b e1).trans e2) d2
theorem r_cOff {σ : L2.St} {ta : TA} {D : Addr} {G H : Hp} {m c : Nat} {Q : VK} (d : DD D G H) (hm : 0 < m ∧ m ≤ 1000000) (h : EvA ta σ H [.ref D, .int (m : Nat)]) (k : ∀ (r : Nat) (H2 : Hp), r < m → ExB D H H2 → DD D G H2 → Q (.int ((c + r : Nat) : Int)) H2) :
    tOp (rI0 fun i j => .int (i + j)) (tC (.int ((c : Nat) : Int))) (tCall spOff [] E0 ta) σ H Q :=
  r_off d hm h fun r H2 hr e2 d2 => ⟨(c : Nat), (r : Nat), rfl, rfl, by
    have := k r H2 hr e2 d2
    rw [Int.natCast_add] at this
    exact this⟩
/-- [a, b, ..][off(d, m)] -/
theorem r_menu {σ : L2.St} {ta tb : TA} {D : Addr} {G H : Hp} {m : Nat} {vs : List V} {Q : VK} (d : DD D G H) (ha : EvA ta σ H vs) (hl : vs.length = m) (hm : 0 < m ∧ m ≤ 1000) (h : ∀ H1, Ex H H1 → EvA tb σ H1 [.ref D, .int (m : Nat)])
    (k : ∀ (v : V) (H2 : Hp), v ∈ vs → ExB D H H2 → DD D G H2 → Q v H2) : tOp (rIxL K) (tLst ta) (tCall spOff [] E0 tb) σ H Q :=
  r_op2 (el_lst ha (by omega) H (Ex.refl H) _ fun pl H3 hp e3 h3 => r_off (m := m) (d.up e3) (by omega) (h H3 e3) fun r H4 hr e4 d4 => by
    obtain ⟨ds, _, hds⟩ := d.at_
    have hpl : pl ≠ D := (ne_of_none hds hp).symm
    have hr' : r < vs.length := by omega
    exact ⟨pl, vs, (r : Nat), vs[r], rfl, rfl, sq_of (e4 _ _ hpl h3), atI_nat (List.getElem?_eq_getElem hr'), k _ H4 (List.getElem_mem hr') ((Ex.b e3).trans e4) d4⟩)
/-- for .. in range(off(d, m)), something behind -/
theorem r_qforOff {σ : L2.St} {ta : TA} {Da : Addr} {G H : Hp} {m j : Nat} {tu tz : TS} {D : Ends} (d : DD Da G H) (hm : 0 < m ∧ m ≤ 1000) (h : EvA ta σ H [.ref Da, .int (m : Nat)]) (Pv : Nat → Nat → L2.St → Hp → Prop) (h0 : ∀ n H1, n < m → ExB Da H H1 → DD Da G H1 → Pv n 0 σ H1)
    (hs : ∀ n i σ' H', n < m → i < n → Pv n i σ' H' → tu { D with nx := Pv n (i + 1), ct := Pv n (i + 1), bk := tz D } (σ'.set j (some (.int (i : Nat)))) H') (hd : ∀ n σ' H', n < m → Pv n n σ' H' → tz D σ' H') :
    tSeq (tFor (iRng1 (tCons (tCall spOff [] E0 ta) tNil)) (gName j) tu) tz D σ H := by
  show tCall spOff [] E0 ta σ H _
  refine r_off d (by omega) h fun n H1 hn e1 d1 => ⟨(n : Nat), rfl, by omega, by omega, ?_⟩
  have := for_range (lo := 0) (n := ((n : Nat) : Int).toNat) (g := gName j) (tb := tu) (D := { D with nx := tz D }) (σ := σ) (H := H1) (Pv n) (h0 n H1 hn e1 d1) (fun i σ' H' hi p => by
    have e0 : (0 : Int) + (i : Int) = (i : Int) := Int.zero_add _
    show tu { D with nx := Pv n (i + 1), ct := Pv n (i + 1), bk := tz D } (σ'.set j (some (.int ((0 : Int) + (i : Int))))) H'
    rw [e0]
    exact hs n i σ' H' hn (by omega) p) (fun σ' H' p => hd n σ' H' hn p)
  exact this
theorem r_and {t u : TT} {σ : L2.St} {H : Hp} {b : Bool} {Q : Bool → Hp → Prop} (h1 : EvT t σ H b) (h2 : b = true → ∀ H1, Ex H H1 → u σ H1 Q) (h3 : b = false → ∀ H1, Ex H H1 → Q false H1) : tAnd t u σ H Q := h1 H (Ex.refl H) _ fun H1 e1 => by
  cases b with
  | true => exact iteT (h2 rfl H1 e1)
  | false => exact iteF (h3 rfl H1 e1)
theorem get_ints {ds : List Int} {i : Nat} (h : i < ds.length) : atI (ds.map V.int) (i : Nat) = some (.int (ds.getD i 0)) := by
  refine atI_nat ?_
  rw [List.getElem?_map, List.getElem?_eq_getElem h, List.getD_eq_getElem?_getD, List.getElem?_eq_getElem h]
  rfl
theorem erase_map {α β : Type} (f : α → β) : ∀ (l : List α) (i : Nat), (l.map f).eraseIdx i = (l.eraseIdx i).map f
  | [], _ => rfl
  | _ :: _, 0 => rfl
  | a :: l, i + 1 => congrArg (f a :: ·) (erase_map f l i)
theorem set_ints {ds : List Int} {i : Nat} {z : Int} : (ds.map V.int).set i (.int z) = (ds.set i z).map V.int := by
  rw [List.map_set]
theorem ok_law_off (D : Def1 K mg "_law_off" s_law_off) (B : Bl mg) : Cal P w K mg base 1 "_law_off" ["_law_d", "_law_most"] spOff := by
  refine D.cal sc_law_off (fun _ _ _ _ _ _ us hl => match us, hl with | [_, _], _ => rfl) (fun vs H Q E h => ?_) (fun f cdv A outer s H vs Q E hr h => ?_)
  · obtain ⟨D, ds, m, rfl, _⟩ := h
    rfl
  · obtain ⟨D, ds, m, rfl, hm, h2, hD, k⟩ := h
    refine ⟨_, (pss_cut (ps_if (PW.pt (pw_and (pt_cmpR op_eq (pe_ix ix_list (pv 0) pe_int (fun _ _ => rfl)) pe_int (nomark _)) (pw_and1 (pt_cmpR op_gt (pe_callB call_len_seq (by rfl) B.len PySem.boot_len (pa_cons (pv 0) pa_nil)) pe_int (nomark _))))) (pss_one (ps_asg (pe_bm PySem.F.plainAttrs_list PySem.F.slot_list_pop PySem.F.type_list_pop mt_popAt (pv 0) (pa_cons pe_int pa_nil)) (pg_sub (pv 0) pe_int set_list)))
 pss_nil)
 (pss_cons (ps_if (pt_cmpR op_gt (pe_ix ix_list (pv 0) pe_int (fun _ _ => rfl)) pe_int (nomark _)) (pss_cons (ps_set (i := 2) sc_law_off.nd rfl (Or.inl rfl) (pe_op op_mod (pe_ix ix_list (pv 0) pe_int (fun _ _ => rfl)) (pv 1)))
 (pss_cons (ps_asg (pe_op op_fdiv (pe_ix ix_list (pv 0) pe_int (fun _ _ => rfl)) (pv 1)) (pg_sub (pv 0) pe_int set_list))
 (pss_one (ps_ret (pv 2)))))
 pss_nil)
 (pss_cons (ps_asg (pe_op op_mod (pe_op op_add (pe_op op_mul (pe_ix ix_list (pv 0) pe_int (fun _ _ => rfl)) pe_int) pe_int) pe_int) (pg_sub (pv 0) pe_int set_list))
 (pss_one (ps_ret (pe_op op_mod (pe_op op_fdiv (pe_ix ix_list (pv 0) pe_int (fun _ _ => rfl)) pe_int) (pv 1))))))), ?_⟩
    have ix1 : ∀ {H' : Hp} {ds' : List Int} {y : Option V}, 2 ≤ ds'.length → H' D = some (.lst (ds'.map V.int)) → Ev (tOp (rIxL K) (tVar 0) (tC (.int 1))) [some (.ref D), some (.int (m : Nat)), y] H' (.int (ds'.getD 1 0)) :=
      fun hl hd => ev_op (ev_var rfl) ev_c (rv_ixL (sq_of hd) (get_ints (i := 1) hl))
    have ix0 : ∀ {H' : Hp} {ds' : List Int} {y : Option V}, 2 ≤ ds'.length → H' D = some (.lst (ds'.map V.int)) → Ev (tOp (rIxL K) (tVar 0) (tC (.int 0))) [some (.ref D), some (.int (m : Nat)), y] H' (.int (ds'.getD 0 0)) :=
      fun hl hd => ev_op (ev_var rfl) ev_c (rv_ixL (sq_of hd) (get_ints (i := 0) (by omega)))
    refine q_cut (M := fun σ H' => ∃ ds' : List Int, σ = [some (.ref D), some (.int (m : Nat)), none] ∧ ExB D H H' ∧ 2 ≤ ds'.length ∧ H' D = some (.lst (ds'.map V.int))) ?_ ?_
    · refine s_when (b := decide (V.int (ds.getD 1 0) = V.int 0) && decide (2 < ((ds.length : Nat) : Int))) (et_and (et_test (ev_op (ix1 h2 hD) ev_c (rv_eq rfl))) (fun _ => et_test (ev_is (ev_op (ev_len (ev_var rfl) (sq_of hD)) ev_c rv_I0) (by simp)))) (fun hb H1 e1 => ?_) (fun hb H1 e1 => ⟨ds, rfl, Ex.b e1, h2, e1 _ _ hD⟩)
      have h3 : 2 < ds.length := by
        have := (Bool.and_eq_true_iff.mp hb).2
        have := of_decide_eq_true this
        omega
      have hD1 := e1 _ _ hD
      refine ⟨.ref D, rfl, Or.inl ⟨rfl, _, sq_of hD1⟩, D, ds.map V.int, 2, 2, .int (ds.getD 2 0), rfl, rfl, hD1, by decide, by decide, ?_, ?_, ?_⟩
      · unfold seqIndex?
        rw [List.length_map]
        simp only [show ¬ ((2 : Int) < 0) by decide, if_false]
        rw [if_pos (by simp; omega)]
        rfl
      · rw [List.getElem?_map, List.getElem?_eq_getElem h3, List.getD_eq_getElem?_getD, List.getElem?_eq_getElem h3]
        rfl
      · refine ⟨.ref D, rfl, D, (ds.map V.int).eraseIdx 2, 1, 1, rfl, rfl, upd_same, ?_, ?_⟩
        · unfold ixN
          rw [if_pos (by decide), if_pos (by rw [List.length_eraseIdx, List.length_map, if_pos h3]; omega)]
          rfl
        · refine ⟨(ds.eraseIdx 2).set 1 (ds.getD 2 0), rfl, (Ex.b e1).trans (ExB.upd.trans ExB.upd), ?_, ?_⟩
          · rw [List.length_set, List.length_eraseIdx, if_pos h3]
            omega
          · rw [upd_same, ← set_ints]
            congr 2
            congr 1
            exact erase_map _ _ _
    · rintro σ' H' ⟨ds', rfl, e', h2', hD'⟩
      refine q_when (b := decide (0 < ds'.getD 1 0)) (et_test (ev_op (ix1 h2' hD') ev_c rv_I0)) (fun hb H1 e1 => ?_) (fun hb H1 e1 => ?_)
      · have hD1 := e1 _ _ hD'
        refine q_asg (v := .int (ds'.getD 1 0 % (m : Nat))) (ev_op (ix1 h2' hD1) (ev_var rfl) (rv_I (by show (0 : Int) < (m : Nat); omega))) fun H2 e2 => ?_
        have hD2 := e2 _ _ hD1
        refine q_setL (j := 1) (xs := ds'.map V.int) hD2 (v := .int (ds'.getD 1 0 / (m : Nat))) (ev_op (ix1 h2' hD2) (ev_var rfl) (rv_I (by show (0 : Int) < (m : Nat) ∧ (m : Nat) < (1073741824 : Int); omega))) (ev_var rfl) ev_c (by rw [List.length_map]; omega) fun H3 e3 => ?_
        have hr0 : 0 ≤ ds'.getD 1 0 % (m : Nat) := Int.emod_nonneg _ (by omega)
        have hr1 : ds'.getD 1 0 % (m : Nat) < (m : Nat) := Int.emod_lt_of_pos _ (by omega)
        refine s_ret (v := .int (ds'.getD 1 0 % (m : Nat))) (ev_var rfl) fun H4 e4 => ?_
        have hz : ((ds'.getD 1 0 % (m : Nat)).toNat : Int) = ds'.getD 1 0 % (m : Nat) := Int.toNat_of_nonneg hr0
        have := k (ds'.getD 1 0 % (m : Nat)).toNat (ds'.set 1 (ds'.getD 1 0 / (m : Nat))) H4 (by omega) (by rw [List.length_set]; exact h2') (e'.trans ((Ex.b ((e1.trans e2).trans e3)).trans (ExB.upd.trans (Ex.b e4)))) (e4 _ _ (by rw [upd_same, set_ints]))
        rw [hz] at this
        exact this
      · have hD1 := e1 _ _ hD'
        refine q_setL (j := 0) (xs := ds'.map V.int) hD1 (v := .int ((ds'.getD 0 0 * 48271 + 11) % 2147483647)) (ev_op (ev_op (ev_op (ix0 h2' hD1) ev_c (rv_I (Or.inr ⟨by decide, by decide⟩))) ev_c rv_I0) ev_c (rv_I (by decide))) (ev_var rfl) ev_c (by rw [List.length_map]; omega) fun H2 e2 => ?_
        have hD2 : (upd H2 D (.lst ((ds'.map V.int).set 0 (.int ((ds'.getD 0 0 * 48271 + 11) % 2147483647))))) D = some (.lst ((ds'.set 0 ((ds'.getD 0 0 * 48271 + 11) % 2147483647)).map V.int)) := by rw [upd_same, set_ints]
        have hl2 : 2 ≤ (ds'.set 0 ((ds'.getD 0 0 * 48271 + 11) % 2147483647)).length := by rw [List.length_set]; exact h2'
        generalize (ds'.set 0 ((ds'.getD 0 0 * 48271 + 11) % 2147483647)) = es at hD2 hl2
        generalize hg : (upd H2 D (.lst ((ds'.map V.int).set 0 (.int ((ds'.getD 0 0 * 48271 + 11) % 2147483647))))) = H3 at hD2
        have e3 : ExB D H H3 := by
          rw [← hg]
          exact e'.trans ((Ex.b (e1.trans e2)).trans ExB.upd)
        have hr0 : 0 ≤ es.getD 0 0 / 64 % (m : Nat) := Int.emod_nonneg _ (by omega)
        have hr1 : es.getD 0 0 / 64 % (m : Nat) < (m : Nat) := Int.emod_lt_of_pos _ (by omega)
        refine s_ret (v := .int (es.getD 0 0 / 64 % (m : Nat))) (ev_op (ev_op (ix0 hl2 hD2) ev_c (rv_I (by show (0 : Int) < 64 ∧ (64 : Int) < 1073741824; decide))) (ev_var rfl) (rv_I (by show (0 : Int) < (m : Nat); omega))) fun H4 e4 => ?_
        have hz : ((es.getD 0 0 / 64 % (m : Nat)).toNat : Int) = es.getD 0 0 / 64 % (m : Nat) := Int.toNat_of_nonneg hr0
        have := k (es.getD 0 0 / 64 % (m : Nat)).toNat es H4 (by omega) hl2 (e3.trans (Ex.b e4)) (e4 _ _ hD2)
        rw [hz] at this
        exact this
end
end Bm
namespace Bm
open PySem PySem.Spec PyProof.Rows L2 Evl
section
variable {P : Program} {w : World} {K : PySem.W.Frag} {mg : PySem.Str → Option Value} {base : Heap}
/-! ### _law_alike -/
abbrev s_law_alike : Stmt := topS 20
theorem sc_law_alike : FnScope ["_law_found", "_law_due", "_law_k"] ["_law_found", "_law_due"] (defScope s_law_alike) := ⟨rfl, rfl, rfl, by decide +kernel, rfl, by decide +kernel, by decide +kernel⟩
def spAlike (K : PySem.W.Frag) (n : Nat) : Sp := fun vs H Q _ => ∃ v u : V, vs = [v, u] ∧ Al K H n v u ∧ RetV (.bl true) H Q
def rNotV : V → V → Bool := fun x y => !decide (x = y)
theorem alike_turn (D : Def1 K mg "_law_alike" s_law_alike) (B : Bl mg) {n : Nat} {sp' : Sp} (c_law_alike : Cal P w K mg base n "_law_alike" ["_law_found", "_law_due"] sp') (hs : ∀ m, n = m + 1 → ∀ (H : Hp) (x y : V), Al K H m x y → SpV sp' [x, y] H (.bl true)) :
    Cal P w K mg base (n + 1) "_law_alike" ["_law_found", "_law_due"] (spAlike K n) := by
  refine D.cal sc_law_alike (fun _ _ _ _ _ _ us hl => match us, hl with | [_, _], _ => rfl) (fun vs H Q E h => ?_) (fun f cdv A outer s H vs Q E hr h => ?_)
  · obtain ⟨v, u, rfl, _⟩ := h
    rfl
  · obtain ⟨v, u, rfl, ha, k⟩ := h
    refine ⟨_, (pss_cons (ps_if (pt_cmpR op_isN (pv 1) pe_non (nomark _)) (pss_one (ps_ret (pe_cmpR op_isN (pv 0) pe_non (nomark _))))
 pss_nil)
 (pss_cons (ps_if (pt_val (pe_callB call_isi (by rfl) B.isinstance (by decide +kernel) (pa_cons (pv 1) (pa_cons (pe_bltn (v := .ty "bool") (by rfl) B.bool (by decide +kernel) rfl) pa_nil)))) (pss_one (ps_ret (pe_and (pe_callB call_isi (by rfl) B.isinstance (by decide +kernel) (pa_cons (pv 0) (pa_cons (pe_bltn (v := .ty "bool") (by rfl) B.bool (by decide +kernel) rfl) pa_nil))) (pe_one (pe_cmpR op_eq (pv 0) (pv 1) (nomark _))))))
 pss_nil)
 (pss_cons (ps_if (pt_val (pe_callB call_isi (by rfl) B.isinstance (by decide +kernel) (pa_cons (pv 1) (pa_cons (pe_bltn (v := .ty "int") (by rfl) B.int (by decide +kernel) rfl) pa_nil)))) (pss_one (ps_ret (pe_and (pe_callB call_isi (by rfl) B.isinstance (by decide +kernel) (pa_cons (pv 0) (pa_cons (pe_bltn (v := .ty "int") (by rfl) B.int (by decide +kernel) rfl) pa_nil))) (pe_and (pe_not (pe_callB call_isi (by rfl) B.isinstance (by decide +kernel) (pa_cons (pv 0) (pa_cons (pe_bltn (v := .ty "bool") (by rfl) B.bool (by decide +kernel) rfl) pa_nil)))) (pe_one (pe_cmpR op_eq (pv 0) (pv 1) (nomark _)))))))
 pss_nil)
 (pss_cons (ps_if (pt_val (pe_callB call_isi (by rfl) B.isinstance (by decide +kernel) (pa_cons (pv 1) (pa_cons (pe_bltn (v := .ty "str") (by rfl) B.str (by decide +kernel) rfl) pa_nil)))) (pss_one (ps_ret (pe_and (pe_callB call_isi (by rfl) B.isinstance (by decide +kernel) (pa_cons (pv 0) (pa_cons (pe_bltn (v := .ty "str") (by rfl) B.str (by decide +kernel) rfl) pa_nil))) (pe_one (pe_cmpR op_eq (pv 0) (pv 1) (nomark _))))))
 pss_nil)
 (pss_cons (ps_if (PW.pt (pw_or (pt_cmpR op_ne (pe_callB call_isi (by rfl) B.isinstance (by decide +kernel) (pa_cons (pv 1) (pa_cons (pe_bltn (v := .ty "tuple") (by rfl) B.tuple (by decide +kernel) rfl) pa_nil))) (pe_callB call_isi (by rfl) B.isinstance (by decide +kernel) (pa_cons (pv 0) (pa_cons (pe_bltn (v := .ty "tuple") (by rfl) B.tuple (by decide +kernel) rfl) pa_nil))) (nomark _)) (pw_or1 (pt_cmpR op_ne (pe_callB call_isi (by rfl) B.isinstance (by decide +kernel) (pa_cons (pv 1) (pa_cons (pe_bltn (v := .ty "list") (by rfl) B.list (by decide +kernel) rfl) pa_nil))) (pe_callB call_isi (by rfl) B.isinstance (by decide +kernel) (pa_cons (pv 0) (pa_cons (pe_bltn (v := .ty "list") (by rfl) B.list (by decide +kernel) rfl) pa_nil))) (nomark _))))) (pss_one (ps_ret pe_bl))
 pss_nil)
 (pss_cons (ps_if (pt_cmpR op_ne (pe_callB call_len_seq (by rfl) B.len PySem.boot_len (pa_cons (pv 0) pa_nil)) (pe_callB call_len_seq (by rfl) B.len PySem.boot_len (pa_cons (pv 1) pa_nil)) (nomark _)) (pss_one (ps_ret pe_bl))
 pss_nil)
 (pss_one (ps_ret (pe_callB (cr_all rfl) (by rfl) B.all (by decide +kernel) (pa_cons (pe_lc (own := [("_law_k", 2)]) (g := gName 2) rfl sc_law_alike.nd (pi_range1 (by rfl) B.range (pa_cons (pe_callB call_len_seq (by rfl) B.len PySem.boot_len (pa_cons (pv 1) pa_nil)) pa_nil)) (blkOk_by (N := ["_law_found", "_law_due", "_law_k"]) (sc := defScope s_law_alike) (by decide +kernel)) (fun _ _ _ _ _ => (pg_name (i := 2) sc_law_alike.nd rfl (Or.inl rfl))) (fun _ _ _ _ _ => pts_nil) (fun _ _ _ _ _ => (pe_callC c_law_alike hr (Nat.le_refl _) (pa_cons (pe_ix (r := rIx K) ix_seq (pv 0) (pv 2) (fun _ _ => rfl)) (pa_cons (pe_ix (r := rIx K) ix_seq (pv 1) (pv 2) (fun _ _ => rfl)) pa_nil))))) pa_nil)))))))))), ?_⟩
    have hcase : (v = u ∧ sc1 v = true) ∨ ∃ m, n = m + 1 ∧ ∃ a b xs ys, v = .ref a ∧ u = .ref b ∧ ((SqL K H a xs ∧ SqL K H b ys) ∨ (SqT K H a xs ∧ SqT K H b ys)) ∧ xs.length = ys.length ∧ xs.length ≤ 40000 ∧
        ∀ (i : Nat) x y, xs[i]? = some x → ys[i]? = some y → Al K H m x y := by
      cases n with
      | zero => exact .inl ha
      | succ m =>
        rcases ha with h | h
        · exact .inl h
        · exact .inr ⟨m, rfl, h⟩
    rcases hcase with ⟨rfl, hv⟩ | ⟨m, hm, a, b, xs, ys, rfl, rfl, hq, hlen, hz, hi⟩
    · cases v with
      | non =>
        refine q_when (b := true) (et_is (et_test (ev_isN (x := .non) (ev_var rfl))) rfl) (fun _ H1 e1 => ?_) (fun hb => nomatch hb)
        exact s_ret (v := .bl true) (ev_isN (x := .non) (ev_var rfl)) fun H2 e2 => k H2 (e1.trans e2)
      | bl c =>
        refine q_when (b := false) (et_is (et_test (ev_isN (x := .bl c) (ev_var rfl))) rfl) (fun hb => nomatch hb) (fun _ H1 e1 => ?_)
        refine q_when (b := true) (et_B (ev_isi (a := "bool") (ev_var rfl) (fun _ _ => .base (.bl c)) (by decide +kernel))) (fun _ H2 e2 => ?_) (fun hb => nomatch hb)
        exact s_ret (v := .bl true) (ev_andV (a := true) (ev_isi (a := "bool") (ev_var rfl) (fun _ _ => .base (.bl c)) (by decide +kernel)) (fun _ => ev_is (ev_op (ev_var rfl) (ev_var rfl) (rv_eq (x := .bl c) (y := .bl c) rfl)) (by rw [decide_eq_true rfl]))) fun H3 e3 => k H3 ((e1.trans e2).trans e3)
      | int c =>
        refine q_when (b := false) (et_is (et_test (ev_isN (x := .int c) (ev_var rfl))) rfl) (fun hb => nomatch hb) (fun _ H1 e1 => ?_)
        refine q_when (b := false) (et_B (ev_isi (a := "int") (ev_var rfl) (fun _ _ => .base (.int c)) (by decide +kernel))) (fun hb => nomatch hb) (fun _ H2 e2 => ?_)
        refine q_when (b := true) (et_B (ev_isi (a := "int") (ev_var rfl) (fun _ _ => .base (.int c)) (by decide +kernel))) (fun _ H3 e3 => ?_) (fun hb => nomatch hb)
        exact s_ret (v := .bl true) (ev_andV (a := true) (ev_isi (a := "int") (ev_var rfl) (fun _ _ => .base (.int c)) (by decide +kernel)) (fun _ => ev_andV (a := true) (b := true) (ev_notV (a := false) (ev_isi (a := "int") (ev_var rfl) (fun _ _ => .base (.int c)) (by decide +kernel))) (fun _ => ev_is (ev_op (ev_var rfl) (ev_var rfl) (rv_eq (x := .int c) (y := .int c) rfl)) (by rw [decide_eq_true rfl])))) fun H4 e4 => k H4 (((e1.trans e2).trans e3).trans e4)
      | str c =>
        refine q_when (b := false) (et_is (et_test (ev_isN (x := .str c) (ev_var rfl))) rfl) (fun hb => nomatch hb) (fun _ H1 e1 => ?_)
        refine q_when (b := false) (et_B (ev_isi (a := "str") (ev_var rfl) (fun _ _ => .base (.str c)) (by decide +kernel))) (fun hb => nomatch hb) (fun _ H2 e2 => ?_)
        refine q_when (b := false) (et_B (ev_isi (a := "str") (ev_var rfl) (fun _ _ => .base (.str c)) (by decide +kernel))) (fun hb => nomatch hb) (fun _ H3 e3 => ?_)
        refine q_when (b := true) (et_B (ev_isi (a := "str") (ev_var rfl) (fun _ _ => .base (.str c)) (by decide +kernel))) (fun _ H4 e4 => ?_) (fun hb => nomatch hb)
        exact s_ret (v := .bl true) (ev_andV (a := true) (ev_isi (a := "str") (ev_var rfl) (fun _ _ => .base (.str c)) (by decide +kernel)) (fun _ => ev_is (ev_op (ev_var rfl) (ev_var rfl) (rv_eq (x := .str c) (y := .str c) rfl)) (by rw [decide_eq_true rfl]))) fun H5 e5 => k H5 ((((e1.trans e2).trans e3).trans e4).trans e5)
      | byt c => cases hv
      | flt c => cases hv
      | ref c => cases hv
      | ty c => cases hv
    · -- a list or a tuple
      obtain ⟨T, rt, rl, hkb, hki, hks, hkt, hkl, htA, htB⟩ : ∃ (T : String) (rt rl : Bool), kitB T "bool" = some false ∧ kitB T "int" = some false ∧ kitB T "str" = some false ∧ kitB T "tuple" = some rt ∧ kitB T "list" = some rl ∧ (∀ H', Ex H H' → TyX K H' (.ref a) (.type T)) ∧ (∀ H', Ex H H' → TyX K H' (.ref b) (.type T)) := by
        rcases hq with ⟨h1, h2⟩ | ⟨h1, h2⟩
        · exact ⟨"list", false, true, by decide +kernel, by decide +kernel, by decide +kernel, by decide +kernel, by decide +kernel, fun H' e => ty_l (ex_l e h1), fun H' e => ty_l (ex_l e h2)⟩
        · exact ⟨"tuple", true, false, by decide +kernel, by decide +kernel, by decide +kernel, by decide +kernel, by decide +kernel, fun H' e => ty_t (ex_t e h1), fun H' e => ty_t (ex_t e h2)⟩
      have hqA : ∀ {H'}, Ex H H' → SqL K H' a xs ∨ SqT K H' a xs := fun e => by
        rcases hq with ⟨h1, h2⟩ | ⟨h1, h2⟩
        · exact .inl (ex_l e h1)
        · exact .inr (ex_t e h1)
      have hqB : ∀ {H'}, Ex H H' → SqL K H' b ys ∨ SqT K H' b ys := fun e => by
        rcases hq with ⟨h1, h2⟩ | ⟨h1, h2⟩
        · exact .inl (ex_l e h2)
        · exact .inr (ex_t e h2)
      have isA : ∀ {H' : Hp} {y : Option V} {T' : String} {r : Bool}, Ex H H' → kitB T T' = some r → Ev (tCB (rIsi K) (tCons (tVar 0) (tCons (tC (.ty T')) tNil))) [some (.ref a), some (.ref b), y] H' (.bl r) := fun e hk => ev_isi (ev_var rfl) (fun H1 e1 => htA H1 (e.trans e1)) hk
      have isB : ∀ {H' : Hp} {y : Option V} {T' : String} {r : Bool}, Ex H H' → kitB T T' = some r → Ev (tCB (rIsi K) (tCons (tVar 1) (tCons (tC (.ty T')) tNil))) [some (.ref a), some (.ref b), y] H' (.bl r) := fun e hk => ev_isi (ev_var rfl) (fun H1 e1 => htB H1 (e.trans e1)) hk
      have lnA : ∀ {H' : Hp} {y : Option V}, Ex H H' → Ev (tCB (rLenS K) (tCons (tVar 0) tNil)) [some (.ref a), some (.ref b), y] H' (.int (xs.length : Nat)) := fun e => fun H1 e1 Q q => ⟨.ref a, rfl, a, xs, rfl, hqA (e.trans e1), q H1 (Ex.refl H1)⟩
      have lnB : ∀ {H' : Hp} {y : Option V}, Ex H H' → Ev (tCB (rLenS K) (tCons (tVar 1) tNil)) [some (.ref a), some (.ref b), y] H' (.int (ys.length : Nat)) := fun e => fun H1 e1 Q q => ⟨.ref b, rfl, b, ys, rfl, hqB (e.trans e1), q H1 (Ex.refl H1)⟩
      refine q_when (b := false) (et_is (et_test (ev_isN (x := .ref b) (ev_var rfl))) rfl) (fun hb => nomatch hb) (fun _ H1 e1 => ?_)
      refine q_when (b := false) (et_B (isB e1 hkb)) (fun hb => nomatch hb) (fun _ H2 e2 => ?_)
      have e12 := e1.trans e2
      refine q_when (b := false) (et_B (isB e12 hki)) (fun hb => nomatch hb) (fun _ H3 e3 => ?_)
      have e13 := e12.trans e3
      refine q_when (b := false) (et_B (isB e13 hks)) (fun hb => nomatch hb) (fun _ H4 e4 => ?_)
      have e14 := e13.trans e4
      refine q_when (b := false) (et_is (et_or (a := !decide (V.bl rt = V.bl rt)) (b := !decide (V.bl rl = V.bl rl)) (et_test (ev_op (isB e14 hkt) (isA e14 hkt) (rv_ne rfl))) (fun _ => et_test (ev_op (isB e14 hkl) (isA e14 hkl) (rv_ne rfl)))) (by rw [decide_eq_true rfl, decide_eq_true rfl]; rfl)) (fun hb => nomatch hb) (fun _ H5 e5 => ?_)
      have e15 := e14.trans e5
      refine q_when (b := false) (et_is (et_test (ev_op (lnA e15) (lnB e15) (rv_ne rfl))) (by rw [hlen, decide_eq_true rfl]; rfl)) (fun hb => nomatch hb) (fun _ H6 e6 => ?_)
      have e16 := e15.trans e6
      have el : EvL (tLc (iRng1 (tCons (tCB (rLenS K) (tCons (tVar 1) tNil)) tNil)) (gName 2) tYes (tCall sp' [] E0 (tCons (tOp (rIx K) (tVar 0) (tVar 2)) (tCons (tOp (rIx K) (tVar 1) (tVar 2)) tNil))) [2]) [some (.ref a), some (.ref b), none] H6 (given ys.length (fun _ => true) (fun _ => .bl true)) := by
        refine el_lcR1 (n := ((ys.length : Nat) : Int)) (fun _ => true) (fun _ => .bl true) (ea_cons (lnB e16) ea_nil) (by omega) (fun _ => rfl) (fun i H7 e7 hi' => fun H8 e8 Q q => q H8 (Ex.refl H8)) (fun i H7 e7 hi' _ => ?_)
        have hix : i < xs.length := by omega
        have hiy : i < ys.length := by omega
        have gx := List.getElem?_eq_getElem hix
        have gy := List.getElem?_eq_getElem hiy
        have e17 := e16.trans e7
        have evA : Ev (tOp (rIx K) (tVar 0) (tVar 2)) [some (.ref a), some (.ref b), some (.int (i : Nat))] H7 xs[i] := ev_op (ev_var rfl) (ev_var rfl) fun H8 e8 Q q => by
          rcases hqA (e17.trans e8) with h | h
          · exact .inl ⟨a, xs, (i : Nat), _, rfl, rfl, h, atI_nat gx, q H8 (Ex.refl H8)⟩
          · exact .inr (.inl ⟨a, xs, (i : Nat), _, rfl, rfl, h, atI_nat gx, q H8 (Ex.refl H8)⟩)
        have evB : Ev (tOp (rIx K) (tVar 1) (tVar 2)) [some (.ref a), some (.ref b), some (.int (i : Nat))] H7 ys[i] := ev_op (ev_var rfl) (ev_var rfl) fun H8 e8 Q q => by
          rcases hqB (e17.trans e8) with h | h
          · exact .inl ⟨b, ys, (i : Nat), _, rfl, rfl, h, atI_nat gy, q H8 (Ex.refl H8)⟩
          · exact .inr (.inl ⟨b, ys, (i : Nat), _, rfl, rfl, h, atI_nat gy, q H8 (Ex.refl H8)⟩)
        exact ev_call (ea_cons evA (ea_cons evB ea_nil)) (hs m hm H7 _ _ ((hi i _ _ gx gy).up e17))
      refine s_ret (v := .bl true) (ev_cbL el fun p H7 h7 e7 H8 e8 Q q => ⟨p, List.replicate ys.length true, rfl, ?_, ?_⟩) fun H7 e7 => k H7 (e16.trans e7)
      · refine sq_of ((e8 _ _ h7).trans ?_)
        congr 2
        unfold given
        rw [List.filter_eq_self.mpr (fun _ _ => rfl), List.map_replicate]
        exact List.map_const' .. |>.trans (by rw [List.length_range])
      · have ht : (List.replicate ys.length true).all id = true := by
          rw [List.all_eq_true]
          intro z hz
          exact (List.eq_of_mem_replicate hz)
        rw [ht]
        exact q H8 (Ex.refl H8)
theorem ok_law_alike (D : Def1 K mg "_law_alike" s_law_alike) (B : Bl mg) : ∀ n, Cal P w K mg base (n + 1) "_law_alike" ["_law_found", "_law_due"] (spAlike K n)
  | 0 => by
    obtain ⟨f, fd, F, hm⟩ := D.ex
    have C0 : Cal P w K mg base 0 "_law_alike" ["_law_found", "_law_due"] (fun _ _ _ _ => False) := ⟨f, fd, ⟨fun _ _ _ _ h => h.elim, fun _ _ _ _ _ _ _ _ _ _ _ _ _ h => h.elim⟩, hm, F.kp, F.bindsN (fun _ _ _ _ _ _ us hl => match us, hl with | [_, _], _ => rfl), by
      obtain ⟨oc, od, _, _, _, _, _, _, _, osl, _, lk, _⟩ := F.ex
      exact ⟨oc, od, osl, lk⟩⟩
    exact alike_turn D B C0 fun m h => nomatch h
  | n + 1 => alike_turn D B (ok_law_alike D B n) fun m h H x y ha H1 e Q q E => by
    cases h
    exact ⟨x, y, rfl, ha.up e, q⟩
end
end Bm
namespace Bm
open PySem PySem.Spec PyProof.Rows L2 Evl
section
variable {P : Program} {w : World} {K : PySem.W.Frag} {mg : PySem.Str → Option Value} {base : Heap}
/-! ### _law_pattern -/
abbrev s_law_pattern : Stmt := topS 21
theorem sc_law_pattern : FnScope ["_law_d", "_law_most", "_law_often", "_law_found", "_law_at", "_law_k"] ["_law_d", "_law_most"] (defScope s_law_pattern) := ⟨rfl, rfl, rfl, by decide +kernel, rfl, by decide +kernel, by decide +kernel⟩
def spPattern : Sp := fun vs H Q _ => ∃ (D : Addr) (G : Hp) (m : Nat), vs = [.ref D, .int (m : Nat)] ∧ DD D G H ∧ (0 < m ∧ m ≤ 12) ∧ ∀ (p : List Bool) (H2 : Hp), Pat m p → DD D G H2 → Q (.str (txt p)) H2
def rInt1 : List V → Hp → VK → Prop := fun xs H Q => (∃ i, xs = [.int i] ∧ Q (.int i) H) ∨ ∃ k, xs = [.bl k] ∧ Q (.int (if k then 1 else 0)) H
theorem ok_law_pattern (D : Def1 K mg "_law_pattern" s_law_pattern) (B : Bl mg) (c_law_off : Cal P w K mg base 1 "_law_off" ["_law_d", "_law_most"] spOff) : Cal P w K mg base 2 "_law_pattern" ["_law_d", "_law_most"] spPattern := by
  refine D.cal sc_law_pattern (fun _ _ _ _ _ _ us hl => match us, hl with | [_, _], _ => rfl) (fun vs H Q E h => ?_) (fun f cdv A outer s H vs Q E hr h => ?_)
  · obtain ⟨D, G, m, rfl, _⟩ := h
    rfl
  · obtain ⟨D, G, m, rfl, d, ⟨hm, hm2⟩, k⟩ := h
    refine ⟨_, (pss_cons (ps_set (i := 2) sc_law_pattern.nd rfl (Or.inr rfl) (pe_op op_add pe_int (pe_callC c_law_off hr (by decide) (pa_cons (pv 0) (pa_cons pe_int pa_nil)))))
 (pss_cons (ps_set (i := 3) sc_law_pattern.nd rfl (Or.inl rfl) (pe_join pe_str (pe_lc (own := [("_law_k", 5)]) (g := gName 5) rfl sc_law_pattern.nd (pi_range1 (by rfl) B.range (pa_cons (pe_op op_add pe_int (pe_callC c_law_off hr (by decide) (pa_cons (pv 0) (pa_cons (pv 1) pa_nil)))) pa_nil)) (blkOk_by (N := ["_law_d", "_law_most", "_law_often", "_law_found", "_law_at", "_law_k"]) (sc := defScope s_law_pattern) (by decide +kernel)) (fun _ _ _ _ _ => (pg_name (i := 5) sc_law_pattern.nd rfl (Or.inl rfl))) (fun _ _ _ _ _ => pts_nil) (fun _ _ _ _ _ => (pe_ix ix_str pe_str (pe_callTy call_int1 (by rfl) B.int (by decide +kernel) (pa_cons (pe_cmpR op_eq (pe_callC c_law_off hr (by decide) (pa_cons (pv 0) (pa_cons (pv 2) pa_nil))) pe_int (nomark _)) pa_nil)) (fun _ _ => rfl))))))
 (pss_cut (ps_if (pt_cmpR op_notIn_sign pe_str (pv 3) (by rfl)) (pss_cons (ps_set (i := 4) sc_law_pattern.nd rfl (Or.inl rfl) (pe_callC c_law_off hr (by decide) (pa_cons (pv 0) (pa_cons (pe_callB call_len_str (by rfl) B.len PySem.boot_len (pa_cons (pv 3) pa_nil)) pa_nil))))
 (pss_one (ps_set (i := 3) sc_law_pattern.nd rfl (Or.inl rfl) (pe_op op_add_str (pe_op op_add_str (pe_slice sl_str (pv 3) po_none (po_some (pv 4))) pe_str) (pe_slice sl_str (pv 3) (po_some (pe_op op_add (pv 4) pe_int)) po_none)))))
 pss_nil)
 (pss_one (ps_ret (pv 3)))))), ?_⟩
    -- often
    refine r_qasg (r_cOff (c := 1) (m := 4) d (by decide) (ea_cons (ev_var rfl) (ea_cons ev_c ea_nil)) fun r0 H1 hr0 _ d1 => ?_)
    -- how many
    refine r_qasg (te := tM1 _ _ _) ⟨⟨_, rfl⟩, ?_⟩
    refine r_cOff (c := 1) (m := m) (ta := tCons (tVar 0) (tCons (tVar 1) tNil)) d1 (by omega) (ea_cons (ev_var rfl) (ea_cons (ev_var rfl) ea_nil)) fun r1 H2 hr1 _ d2 => ?_
    refine ⟨_, rfl, by omega, by omega, fun Dl hDl => ?_⟩
    have hDD : Dl ≠ D := by
      obtain ⟨ds, _, h⟩ := d2.at_
      exact (ne_of_none h hDl).symm
    have hG : G Dl = none := fresh_back d2.ex hDl
    have dnew : ∀ {H' : Hp} {xs : List V}, DD D G H' → DD D G (upd H' Dl (.lst xs)) := fun d' => by
      obtain ⟨ds, h2, h⟩ := d'.at_
      exact ⟨d'.no, fun a o q => by rw [upd_ne (ne_of_none q hG)]; exact d'.ex a o q, ds, h2, by rw [upd_ne hDD.symm]; exact h⟩
    refine lc_range (lo := 0) (n := (((1 + r1 : Nat) : Int)).toNat) (fun i H' => ∃ bs : List Bool, bs.length = i ∧ DD D G H' ∧ H' Dl = some (.lst (bs.map fun b => .str ⟨#[sg b]⟩))) ⟨[], rfl, dnew d2, upd_same⟩ (fun i H' hi p => ?_) (fun H' p => ?_)
    · obtain ⟨bs, hbs, d', hl⟩ := p
      refine ⟨rfl, r_yes ?_⟩
      refine r_op ev_c fun H0 e0 => r_cb1 (r_opc (r_off (m := 1 + r0) (d'.up e0) (by omega) (ea_cons (ev_var rfl) (ea_cons (ev_var rfl) ea_nil)) fun r2 H3 hr2 e3 d3 => ⟨rfl, .inr ⟨_, rfl, ?_⟩⟩))
      have hb : ∀ c : Bool, atI (("01" : PySem.Str)).cps.toList (if c = true then 1 else 0) = some (sg c) := by decide
      refine ⟨"01", _, _, rfl, rfl, by decide, hb _, ?_⟩
      have hl3 := e3 _ _ hDD (e0 _ _ hl)
      refine ⟨_, hl3, by rw [List.length_map]; exact small1000 (by omega), bs ++ [decide (V.int (r2 : Nat) = V.int 0)], by simp [hbs], dnew d3, ?_⟩
      rw [upd_same, List.map_append]
      rfl
    · obtain ⟨bs, hbs, d', hl⟩ := p
      have hlen : 1 ≤ bs.length ∧ bs.length ≤ m := by omega
      refine ⟨"", Dl, bs.map fun b => ⟨#[sg b]⟩, rfl, rfl, .inl (sq_of (hl.trans (by rw [List.map_map]; rfl))), ?_, ?_⟩
      · have hs : ((bs.map fun b => (⟨#[sg b]⟩ : PySem.Str)).map (·.length)).sum = bs.length := by
          rw [List.map_map]
          have : ∀ l : List Bool, (l.map ((fun z : PySem.Str => z.length) ∘ fun b => (⟨#[sg b]⟩ : PySem.Str))).sum = l.length := by
            intro l
            induction l with
            | nil => rfl
            | cons a l ih =>
              rw [List.map_cons, List.sum_cons, ih, List.length_cons]
              show 1 + l.length = l.length + 1
              omega
          exact this bs
        rw [hs]
        show bs.length + _ * 0 ≤ 16777216
        omega
      · rw [join_txt]
        refine q_cut (M := fun σ H' => (∃ (p : List Bool) (z : Option V), σ = [some (.ref D), some (.int (m : Nat)), some (.int ((1 + r0 : Nat) : Int)), some (.str (txt p)), z, none] ∧ Pat m p) ∧ DD D G H') ?_ ?_
        · refine s_when (b := !decide (true ∈ bs)) (et_test (ev_no1in ev_c (ev_var rfl))) (fun hb H3 e3 => ?_) (fun hb H3 e3 => ?_)
          · refine r_qasg (r_off (m := bs.length) (d'.up e3) (by omega) (ea_cons (ev_var rfl) (ea_cons (ev_lenS (ev_var rfl) (by omega)) ea_nil)) fun r H4 hr _ d4 => ?_)
            have h1 : Ev (tC (.str "1")) [some (.ref D), some (.int (m : Nat)), some (.int ((1 + r0 : Nat) : Int)), some (.str (txt bs)), some (.int (r : Nat)), none] H4 (.str (txt [true])) := ev_c
            refine s_asg (v := .str (txt ((bs.take r ++ [true]) ++ bs.drop (r + 1)))) (ev_addS (ev_addS (ev_take (ev_var rfl) (ev_var rfl) (by omega)) h1 (by simp; omega)) (ev_drop (ev_var rfl) (ev_addN (ev_var rfl) (ev_c (v := .int ((1 : Nat) : Int)))) (by omega)) (by simp; omega)) fun H5 e5 => ?_
            refine ⟨⟨_, _, rfl, ⟨?_, ?_, ?_⟩⟩, d4.up e5⟩
            · simp
              omega
            · simp
              omega
            · simp
          · exact ⟨⟨bs, _, rfl, ⟨hlen.1, hlen.2, by simpa using hb⟩⟩, d'.up e3⟩
        · rintro σ' H' ⟨⟨p, z, rfl, hp⟩, d4⟩
          exact s_ret (v := .str (txt p)) (ev_var rfl) fun H3 e3 => k p H3 hp (d4.up e3)
theorem pattern_of {D : Addr} {G H : Hp} {m : Nat} {Q : VK} {E : XK} (d : DD D G H) (hm : 0 < m ∧ m ≤ 12) (k : ∀ (p : List Bool) (H2 : Hp), Pat m p → DD D G H2 → Q (.str (txt p)) H2) : spPattern [.ref D, .int (m : Nat)] H Q E :=
  ⟨D, G, m, rfl, d, hm, k⟩
theorem r_pattern {σ : L2.St} {ta : TA} {D : Addr} {G H : Hp} {m : Nat} {Q : VK} (d : DD D G H) (hm : 0 < m ∧ m ≤ 12) (h : EvA ta σ H [.ref D, .int (m : Nat)]) (k : ∀ (p : List Bool) (H2 : Hp), Pat m p → DD D G H2 → Q (.str (txt p)) H2) : tCall spPattern [] E0 ta σ H Q :=
  h H (Ex.refl H) _ fun H1 e1 => pattern_of (d.up e1) hm k
/-! ### _law_ones -/
abbrev s_law_ones : Stmt := topS 22
theorem sc_law_ones : FnScope ["_law_pattern_here", "_law_at"] ["_law_pattern_here"] (defScope s_law_ones) := ⟨rfl, rfl, rfl, by decide +kernel, rfl, by decide +kernel, by decide +kernel⟩
theorem ok_law_ones (D : Def1 K mg "_law_ones" s_law_ones) (B : Bl mg) : Cal P w K mg base 1 "_law_ones" ["_law_pattern_here"] spOnes := by
  refine D.cal sc_law_ones (fun _ _ _ _ _ _ us hl => match us, hl with | [_], _ => rfl) (fun vs H Q E h => ?_) (fun f cdv A outer s H vs Q E hr h => ?_)
  · obtain ⟨p, rfl, _⟩ := h
    rfl
  · obtain ⟨p, rfl, hp, k⟩ := h
    refine ⟨_, (pss_one (ps_ret (pe_lc (own := [("_law_at", 1)]) (g := gName 1) rfl sc_law_ones.nd (pi_range1 (by rfl) B.range (pa_cons (pe_callB call_len_str (by rfl) B.len PySem.boot_len (pa_cons (pv 0) pa_nil)) pa_nil)) (blkOk_by (N := ["_law_pattern_here", "_law_at"]) (sc := defScope s_law_ones) (by decide +kernel)) (fun _ _ _ _ _ => (pg_name (i := 1) sc_law_ones.nd rfl (Or.inl rfl))) (fun _ _ _ _ _ => (pts_one (pt_cmpR op_eq (pe_ix ix_str (pv 0) (pv 1) (fun _ _ => rfl)) pe_str (nomark _)))) (fun _ _ _ _ _ => (pv 1))))), ?_⟩
    refine s_retL (el_lcR1 (n := ((p.length : Nat) : Int)) (fun i => p.getD i false) (fun i => .int (i : Nat)) (ea_cons (ev_lenS (ev_var rfl) hp) ea_nil) (by omega) (fun _ => rfl) (fun i H1 e1 hi => ?_) (fun i H1 e1 hi _ => ev_var rfl)) fun a H1 ha e1 h1 => k a H1 ha e1 h1
    exact et_test (ev_is1 (ev_ixP (ev_var rfl) (ev_var rfl) (by omega) hp) ev_c)
/-! ### _law_first -/
abbrev s_law_first : Stmt := topS 23
theorem sc_law_first : FnScope ["_law_one", "_law_a", "_law_other", "_law_b", "_law_loose", "_law_mine", "_law_theirs", "_law_moment", "_law_here"] ["_law_one", "_law_a", "_law_other", "_law_b", "_law_loose"] (defScope s_law_first) := ⟨rfl, rfl, rfl, by decide +kernel, rfl, by decide +kernel, by decide +kernel⟩
def spLFirst : Sp := fun vs H Q _ => ∃ (p q : List Bool) (a b : Nat) (l : Bool), vs = [.str (txt p), .int (a : Nat), .str (txt q), .int (b : Nat), .bl l] ∧ (0 < p.length ∧ p.length ≤ 100) ∧ (0 < q.length ∧ q.length ≤ 100) ∧ RetV (oV (first p q l a b)) H Q
theorem aw_next (p : List Bool) (i : Nat) : aw p (i % p.length + 1) = aw p (i + 1) := by
  unfold aw
  rw [Nat.mod_add_mod]
theorem ok_law_first (D : Def1 K mg "_law_first" s_law_first) (B : Bl mg) (c_law_ones : Cal P w K mg base 1 "_law_ones" ["_law_pattern_here"] spOnes) :
    Cal P w K mg base 2 "_law_first" ["_law_one", "_law_a", "_law_other", "_law_b", "_law_loose"] spLFirst := by
  refine D.cal sc_law_first (fun _ _ _ _ _ _ us hl => match us, hl with | [_, _, _, _, _], _ => rfl) (fun vs H Q E h => ?_) (fun f cdv A outer s H vs Q E hr h => ?_)
  · obtain ⟨p, q, x, y, l, rfl, _⟩ := h
    rfl
  · obtain ⟨p, q, a, b, l, rfl, ⟨hp, hp2⟩, ⟨hq, hq2⟩, k⟩ := h
    refine ⟨_, (pss_cons (ps_set (i := 5) sc_law_first.nd rfl (Or.inl rfl) (pe_callC c_law_ones hr (by decide) (pa_cons (pv 0) pa_nil)))
 (pss_cons (ps_set (i := 6) sc_law_first.nd rfl (Or.inl rfl) (pe_callC c_law_ones hr (by decide) (pa_cons (pv 2) pa_nil)))
 (pss_cons (ps_for PassesOwn.never rfl (pi_range1 (by rfl) B.range (pa_cons (pe_op op_mul (pe_callB call_len_str (by rfl) B.len PySem.boot_len (pa_cons (pv 0) pa_nil)) (pe_callB call_len_str (by rfl) B.len PySem.boot_len (pa_cons (pv 2) pa_nil))) pa_nil)) (pg_name (i := 7) sc_law_first.nd rfl (Or.inl rfl))
 (pss_one (ps_if (pt_cmpR op_in_seq (pe_op op_mod (pe_op op_add (pv 3) (pv 7)) (pe_callB call_len_str (by rfl) B.len PySem.boot_len (pa_cons (pv 2) pa_nil))) (pv 6) (by rfl)) (pss_cons (ps_set (i := 8) sc_law_first.nd rfl (Or.inl rfl) (pe_op op_mod (pe_op op_add (pv 1) (pv 7)) (pe_callB call_len_str (by rfl) B.len PySem.boot_len (pa_cons (pv 0) pa_nil))))
 (pss_one (ps_if (PW.pt (pw_or (pt_cmpR op_in_seq (pv 8) (pv 5) (by rfl)) (pw_or1 (PW.pt (pw_and (pt_val (pv 4)) (pw_and1 (pt_cmpR op_in_seq (pe_op op_mod (pe_op op_add (pv 8) pe_int) (pe_callB call_len_str (by rfl) B.len PySem.boot_len (pa_cons (pv 0) pa_nil))) (pv 5) (by rfl)))))))) (pss_one (ps_ret (pv 7)))
 pss_nil)))
 pss_nil)))
 (pss_one (ps_ret pe_non))))), ?_⟩
    have hm : p.length * q.length ≤ 100 * 100 := Nat.mul_le_mul hp2 hq2
    refine q_asgL (xs := onesV p) (el_call (ea_cons (ev_var rfl) ea_nil) fun H1 e Q k E => ⟨p, rfl, by omega, k⟩) fun o1 H1 _ e1 h1 => ?_
    refine q_asgL (xs := onesV q) (el_call (ea_cons (ev_var rfl) ea_nil) fun H1 e Q k E => ⟨q, rfl, by omega, k⟩) fun o2 H2 _ e2 h2 => ?_
    refine q_forR1 (n := ((p.length * q.length : Nat) : Int)) (ea_cons (ev_mulN (ev_lenS (p := p) (ev_var rfl) (by omega)) (ev_lenS (p := q) (ev_var rfl) (by omega)) (by omega)) ea_nil) (by omega)
      (fun i σ H' => (∃ z y, σ = [some (.str (txt p)), some (.int (a : Nat)), some (.str (txt q)), some (.int (b : Nat)), some (.bl l), some (.ref o1), some (.ref o2), z, y]) ∧ Ex H2 H' ∧ ∀ j, j < i → met p q l (a + j) (b + j) = false)
      (fun H1 e => ⟨⟨_, _, rfl⟩, e, fun j hj => absurd hj (Nat.not_lt_zero _)⟩) (fun i σ' H' hi pr => ?_) (fun σ' H' pr => ?_)
    · obtain ⟨⟨z, y, rfl⟩, e, pr⟩ := pr
      have hin : ∀ (y : Option V) (H'' : Hp), Ex H2 H'' → EvT (tTest (tOp (rIn K false) (tOp (rI (fun _ j => 0 < j) fun i j => .int (i % j)) (tOp (rI0 fun i j => .int (i + j)) (tVar 3) (tVar 7)) (tCB rLenStr (tCons (tVar 2) tNil))) (tVar 6))) [some (.str (txt p)), some (.int (a : Nat)), some (.str (txt q)), some (.int (b : Nat)), some (.bl l), some (.ref o1), some (.ref o2), some (.int (i : Nat)), y] H'' (aw q (b + i)) := fun y H'' e =>
        et_test (ev_is (ev_op (ev_modN (ev_addN (ev_var rfl) (ev_var rfl)) (ev_lenS (p := q) (ev_var rfl) (by omega)) hq) (ev_var rfl) (rv_isL (K := K) (sq_of (e _ _ h2)) rfl (onesV_flat q))) (by rw [in_onesV hq]))
      refine s_when (b := aw q (b + i)) (hin _ _ e) (fun hb H3 e3 => ?_) (fun hb H3 e3 => ?_)
      · refine q_asg (v := .int (((a + i) % p.length : Nat) : Int)) (ev_modN (ev_addN (ev_var rfl) (ev_var rfl)) (ev_lenS (p := p) (ev_var rfl) (by omega)) hp) fun H4 e4 => ?_
        have e24 : Ex H2 H4 := (e.trans e3).trans e4
        refine s_when (b := met p q l (a + i) (b + i)) (et_is (et_or (a := aw p (a + i)) (b := l && aw p (a + i + 1)) (et_test (ev_is (ev_op (ev_var rfl) (ev_var rfl) (rv_isL (K := K) (sq_of (e24 _ _ (e2 _ _ h1))) rfl (onesV_flat p))) (by rw [in_onesV hp])))
          (fun _ => et_and (et_B (ev_var rfl)) (fun _ => et_test (ev_is (ev_op (ev_modN (ev_addN (ev_var rfl) (ev_c (v := .int ((1 : Nat) : Int)))) (ev_lenS (p := p) (ev_var rfl) (by omega)) hp) (ev_var rfl) (rv_isL (K := K) (sq_of (e24 _ _ (e2 _ _ h1))) rfl (onesV_flat p))) (by rw [in_onesV hp, aw_next]))))) (by unfold met; rw [hb]; rfl)) (fun hb5 H5 e5 => ?_) (fun hb5 H5 e5 => ?_)
        · refine s_ret (v := .int (i : Nat)) (ev_var rfl) fun H6 e6 => ?_
          have hf : first p q l a b = some i := find_range_is (by omega) hb5 pr
          have := k H6 (((e1.trans e2).trans (e24.trans e5)).trans e6)
          rw [hf] at this
          exact this
        · refine ⟨⟨_, _, rfl⟩, e24.trans e5, fun j hj => ?_⟩
          by_cases hj' : j < i
          · exact pr j hj'
          · have : j = i := by omega
            rw [this]
            exact hb5
      · refine ⟨⟨_, _, rfl⟩, e.trans e3, fun j hj => ?_⟩
        by_cases hj' : j < i
        · exact pr j hj'
        · have : j = i := by omega
          rw [this]
          unfold met
          rw [hb]
          rfl
    · obtain ⟨⟨z, y, rfl⟩, e, pr⟩ := pr
      refine s_ret (v := .non) ev_c fun H3 e3 => ?_
      have hf : first p q l a b = none := find_range_no (by
        intro i hi
        exact pr i (by omega))
      have := k H3 (((e1.trans e2).trans e).trans e3)
      rw [hf] at this
      exact this
end
end Bm
namespace Bm
open PySem PySem.Spec PyProof.Rows L2 Evl
section
variable {P : Program} {w : World} {K : PySem.W.Frag} {mg : PySem.Str → Option Value} {base : Heap}
/-! ### _law_worst -/
abbrev s_law_worst : Stmt := topS 24
theorem sc_law_worst : FnScope ["_law_one", "_law_other", "_law_loose", "_law_rows", "_law_a", "_law_never", "_law_latest", "_law_b", "_law_row"] ["_law_one", "_law_other", "_law_loose"] (defScope s_law_worst) := ⟨rfl, rfl, rfl, by decide +kernel, rfl, by decide +kernel, by decide +kernel⟩
theorem filter_c (rs : List Row) (F : Row → Bool) (G : Cel → Bool) (h : ∀ r, G (cRow r) = F r) : (rs.map cRow).filter G = (rs.filter F).map cRow := by
  induction rs with
  | nil => rfl
  | cons r rs ih =>
    rw [List.map_cons, List.filter_cons, List.filter_cons, h r, ih]
    cases F r <;> rfl
theorem rows_len (p q : List Bool) (l : Bool) : ∀ n, (upto p q l n).length = n * q.length
  | 0 => by simp [upto]
  | n + 1 => by
    rw [upto_succ, List.length_append, rows_len p q l n]
    simp [rowA, Nat.succ_mul]
theorem cRow_at (rs : List Row) (i : Nat) (c : Cel) (h : (rs.map cRow)[i]? = some c) : ∃ r, rs[i]? = some r ∧ c = cRow r := by
  rw [List.getElem?_map] at h
  cases e : rs[i]? with
  | none => rw [e] at h; cases h
  | some r => rw [e] at h; exact ⟨r, rfl, (Option.some.inj h).symm⟩
theorem cRows_ok (rs : List Row) : (rs.map cRow).all okC = true := by
  rw [List.all_map, List.all_eq_true]
  intro r _
  exact cRow_ok r
theorem ok_law_worst (D : Def1 K mg "_law_worst" s_law_worst) (B : Bl mg) (c_law_first : Cal P w K mg base 2 "_law_first" ["_law_one", "_law_a", "_law_other", "_law_b", "_law_loose"] spLFirst) : Cal P w K mg base 3 "_law_worst" ["_law_one", "_law_other", "_law_loose"] (spWorst K) := by
  refine D.cal sc_law_worst (fun _ _ _ _ _ _ us hl => match us, hl with | [_, _, _], _ => rfl) (fun vs H Q E h => ?_) (fun f cdv A outer s H vs Q E hr h => ?_)
  · obtain ⟨p, q, l, rfl, _⟩ := h
    rfl
  · obtain ⟨p, q, l, rfl, ⟨hp, hp2⟩, ⟨hq, hq2⟩, k⟩ := h
    refine ⟨_, (pss_cons (ps_set (i := 3) sc_law_worst.nd rfl (Or.inl rfl) (pe_lst pa_nil))
 (pss_cons (ps_for PassesOwn.never rfl (pi_range1 (by rfl) B.range (pa_cons (pe_callB call_len_str (by rfl) B.len PySem.boot_len (pa_cons (pv 0) pa_nil)) pa_nil)) (pg_name (i := 4) sc_law_worst.nd rfl (Or.inr rfl))
 (pss_one (ps_set (i := 3) sc_law_worst.nd rfl (Or.inl rfl) (pe_op op_cat (pv 3) (pe_lc (own := [("_law_b", 7)]) (g := gName 7) rfl sc_law_worst.nd (pi_range1 (by rfl) B.range (pa_cons (pe_callB call_len_str (by rfl) B.len PySem.boot_len (pa_cons (pv 1) pa_nil)) pa_nil)) (blkOk_by (N := ["_law_one", "_law_other", "_law_loose", "_law_rows", "_law_a", "_law_never", "_law_latest", "_law_b", "_law_row"]) (sc := defScope s_law_worst) (by decide +kernel)) (fun _ _ _ _ _ => (pg_name (i := 7) sc_law_worst.nd rfl (Or.inl rfl))) (fun _ _ _ _ _ => pts_nil) (fun _ _ _ _ _ => (pe_tup (pa_cons (pe_callC c_law_first hr (by decide) (pa_cons (pv 0) (pa_cons (pv 4) (pa_cons (pv 1) (pa_cons (pv 7) (pa_cons (pv 2) pa_nil)))))) (pa_cons (pv 4) (pa_cons (pv 7) pa_nil))))))))))
 (pss_cons (ps_setLc (i := 5) (own := [("_law_row", 8)]) (g := gName 8) rfl sc_law_worst.nd rfl rfl (sw_true rfl rfl rfl (by decide +kernel)) (pi_list (pv 3)) (blkOk_by (N := ["_law_one", "_law_other", "_law_loose", "_law_rows", "_law_a", "_law_never", "_law_latest", "_law_b", "_law_row"]) (sc := defScope s_law_worst) (by decide +kernel)) (fun _ _ _ _ _ => (pg_name (i := 8) sc_law_worst.nd rfl (Or.inl rfl))) (fun _ _ _ _ _ => (pts_one (pt_cmpR op_isN (pe_ix (r := rIxT K) ix_tup (pv 8) pe_int (fun _ _ => rfl)) pe_non (nomark _)))) (fun _ _ _ _ _ => (pv 8)))
 (pss_cons (ps_if (pt_cmpR (op_neD hr.units) (pv 5) (pe_lst pa_nil) (nomark _)) (pss_one (ps_ret (pe_ix ix_list (pv 5) pe_int (fun _ _ => rfl))))
 pss_nil)
 (pss_cons (ps_set (i := 6) sc_law_worst.nd rfl (Or.inr rfl) (pe_callB (cr_max rfl) (by rfl) B.max (by decide +kernel) (pa_cons (pe_lc (own := [("_law_row", 8)]) (g := gName 8) rfl sc_law_worst.nd (pi_list (pv 3)) (blkOk_by (N := ["_law_one", "_law_other", "_law_loose", "_law_rows", "_law_a", "_law_never", "_law_latest", "_law_b", "_law_row"]) (sc := defScope s_law_worst) (by decide +kernel)) (fun _ _ _ _ _ => (pg_name (i := 8) sc_law_worst.nd rfl (Or.inl rfl))) (fun _ _ _ _ _ => pts_nil) (fun _ _ _ _ _ => (pe_ix (r := rIxT K) ix_tup (pv 8) pe_int (fun _ _ => rfl)))) pa_nil)))
 (pss_one (ps_ret (pe_ix ix_list (pe_lc (own := [("_law_row", 8)]) (g := gName 8) rfl sc_law_worst.nd (pi_list (pv 3)) (blkOk_by (N := ["_law_one", "_law_other", "_law_loose", "_law_rows", "_law_a", "_law_never", "_law_latest", "_law_b", "_law_row"]) (sc := defScope s_law_worst) (by decide +kernel)) (fun _ _ _ _ _ => (pg_name (i := 8) sc_law_worst.nd rfl (Or.inl rfl))) (fun _ _ _ _ _ => (pts_one (pt_cmpR op_eq (pe_ix (r := rIxT K) ix_tup (pv 8) pe_int (fun _ _ => rfl)) (pv 6) (nomark _)))) (fun _ _ _ _ _ => (pv 8))) pe_int (fun _ _ => rfl))))))))), ?_⟩
    refine q_asgN (K := K) (cs := []) (en_el (xs := []) (el_lst ea_nil (Nat.zero_le _))) fun o0 xs0 H1 _ e1 h1 i1 => ?_
    refine q_forR1 (n := ((p.length : Nat) : Int)) (ea_cons (ev_lenS (p := p) (ev_var rfl) (by omega)) ea_nil) (by omega)
      (fun a σ H' => (∃ o xs y4, σ = [some (.str (txt p)), some (.str (txt q)), some (.bl l), some (.ref o), y4, none, none, none, none] ∧ H' o = some (.lst xs) ∧ IsAll K H' xs ((upto p q l a).map cRow)) ∧ Ex H H')
      (fun H2 e2 => ⟨⟨o0, xs0, _, rfl, e2 _ _ h1, i1.up e2⟩, e1.trans e2⟩) (fun a σ' H' ha pr => ?_) (fun σ' H' pr => ?_)
    · obtain ⟨⟨o, xs, y4, rfl, ho, io⟩, e⟩ := pr
      have hlen : a * q.length ≤ 100 * 100 := Nat.mul_le_mul (by omega) hq2
      refine s_asgN (K := K) (cs := (upto p q l a).map cRow ++ (rowA p q l a q.length).map cRow) (en_catV (K := K) (ev_var rfl) ho io ?_ ?_) fun o2 xs2 H2 _ e2 h2 i2 => ?_
      · have en : EvN K _ _ _ (givenC (((q.length : Nat) : Int)).toNat (fun _ => true) (fun b => cRow (first p q l a b, a, b))) := en_lcR1 (K := K) (ta := tCons (tCB rLenStr (tCons (tVar 1) tNil)) tNil) (te := tTup (tCons (tCall spLFirst [] E0 (tCons (tVar 0) (tCons (tVar 4) (tCons (tVar 1) (tCons (tVar 7) (tCons (tVar 2) tNil)))))) (tCons (tVar 4) (tCons (tVar 7) tNil)))) (t := tYes) (j := 7) (vs := [7]) (σ := [some (.str (txt p)), some (.str (txt q)), some (.bl l), some (.ref o), some (.int (a : Nat)), none, none, none, none]) (H := H') (n := ((q.length : Nat) : Int)) (fun _ => true) (fun b => cRow (first p q l a b, a, b))
          (ea_cons (ev_lenS (p := q) (ev_var rfl) (by omega)) ea_nil) (by omega) (fun _ => rfl) (fun b H3 e3 hb => fun H4 e4 Q q => q H4 (Ex.refl H4)) (fun b H3 e3 hb _ => ec_tup (ea_cons (ev_call (ea_cons (ev_var rfl) (ea_cons (ev_var rfl) (ea_cons (ev_var rfl) (ea_cons (ev_var rfl) (ea_cons (ev_var rfl) ea_nil))))) fun H1 e Q k E => ⟨p, q, a, b, l, rfl, ⟨hp, hp2⟩, ⟨hq, hq2⟩, k⟩) (ea_cons (ev_var rfl) (ea_cons (ev_var rfl) ea_nil))) (by show 3 ≤ 1000; decide))
        have e0 : givenC (((q.length : Nat) : Int)).toNat (fun _ => true) (fun b => cRow (first p q l a b, a, b)) = (rowA p q l a q.length).map cRow := by
          unfold givenC rowA
          rw [List.filter_eq_self.mpr (fun _ _ => rfl), List.map_map]
          rfl
        rw [e0] at en
        exact en
      · rw [List.length_map, List.length_map, rows_len]
        simp [rowA]
        omega
      · refine ⟨⟨o2, xs2, _, rfl, h2, ?_⟩, e.trans e2⟩
        rw [upto_succ, List.map_append]
        exact i2
    · obtain ⟨⟨o, xs, y4, rfl, ho, io⟩, e⟩ := pr
      have io : IsAll K H' xs ((rows p q l).map cRow) := io
      have hlen : (rows p q l).length ≤ 100 * 100 := by
        show (upto p q l p.length).length ≤ _
        rw [rows_len]
        exact Nat.mul_le_mul hp2 hq2
      -- never
      have isn : ∀ (σ : L2.St) (i : Nat) (x : V) (c : Cel) (H1 : Hp), σ[8]? = some (some x) → ((rows p q l).map cRow)[i]? = some c → Is K H1 x c → Ev (tOp (rIxT K) (tVar 8) (tC (.int 0))) σ H1 (oV ((rows p q l).getD i (none, 0, 0)).1) := fun σ i x c H1 hx hc hi => by
        obtain ⟨r, hr, rfl⟩ := cRow_at _ _ _ hc
        rw [List.getD_eq_getElem?_getD, hr]
        exact ev_ixC (i := 0) (K := K) (ec_var hx hi) ev_c rfl
      refine q_asgN (K := K) (cs := ((rows p q l).filter fun r => r.1.isNone).map cRow) ?_ fun n1 ys H2 _ e2 h2 i2 => ?_
      · have en := en_lcL (K := K) (t := tTest (tOp rIsN (tOp (rIxT K) (tVar 8) (tC (.int 0))) (tC .non))) (te := tVar 8) (tl := tVar 3) (a := o) (xs := xs) (cs := (rows p q l).map cRow) (j := 8) (vs := [8]) (σ := [some (.str (txt p)), some (.str (txt q)), some (.bl l), some (.ref o), y4, none, none, none, none]) (H := H') (fun i => ((rows p q l).getD i (none, 0, 0)).1.isNone) (fun i => ((rows p q l).map cRow).getD i (.v .non))
          (ev_var rfl) (sq_of ho) io (by rw [List.length_map]; omega) (fun _ => rfl) (fun i x c H3 e3 hc hi => et_is (et_test (ev_isN (isn _ i x c H3 rfl hc hi))) (oV_is _)) (fun i x c H3 e3 hc hi _ => by
            rw [List.getD_eq_getElem?_getD, hc]
            exact ec_var rfl hi)
        have e0 : givenC ((rows p q l).map cRow).length (fun i => ((rows p q l).getD i (none, 0, 0)).1.isNone) (fun i => ((rows p q l).map cRow).getD i (.v .non)) = ((rows p q l).filter fun r => r.1.isNone).map cRow := by
          let G : Cel → Bool := fun c => match c with
            | .t (x :: _) => decide (x = .non)
            | _ => false
          have hG : ∀ r : Row, G (cRow r) = r.1.isNone := fun r => oV_is r.1
          rw [← filter_c (rows p q l) _ G hG, ← givenC_filter _ G (.v .non)]
          unfold givenC
          congr 1
          refine List.filter_congr fun i hi => ?_
          have hi : i < (rows p q l).length := by simpa using hi
          rw [List.getD_eq_getElem?_getD, List.getD_eq_getElem?_getD, List.getElem?_map, List.getElem?_eq_getElem hi]
          exact (hG _).symm
        rw [e0] at en
        exact en
      · refine q_when (b := !(((rows p q l).filter fun r => r.1.isNone).map cRow).isEmpty) (et_test (ev_nnilL (K := K) (ev_var rfl) (sq_of h2) i2 (cRows_ok _))) (fun hb H3 e3 => ?_) (fun hb H3 e3 => ?_)
        · -- some never meet
          cases hf : (rows p q l).filter fun r => r.1.isNone with
          | nil => rw [hf] at hb; cases hb
          | cons r rs =>
            rw [hf] at i2
            refine s_retC (K := K) (ec_ixL (c := cRow r) (i := 0) (ev_var rfl) (sq_of (e3 _ _ h2)) (i2.up e3) ev_c rfl) fun u H4 e4 i4 => ?_
            have hw : worst p q l = r := by
              unfold worst
              rw [← List.head?_filter, hf]
              rfl
            have := k u H4 (((e.trans e2).trans e3).trans e4)
            rw [hw] at this
            exact this i4
        · have hnil : (rows p q l).filter (fun r => r.1.isNone) = [] := by
            cases hf : (rows p q l).filter fun r => r.1.isNone with
            | nil => rfl
            | cons r rs => rw [hf] at hb; cases hb
          have hmeet : allMeet (rows p q l) := fun r hr h => by
            have : r ∈ (rows p q l).filter fun r => r.1.isNone := List.mem_filter.mpr ⟨hr, by rw [h]; rfl⟩
            rw [hnil] at this
            cases this
          obtain ⟨M, hM1, hM2⟩ : ∃ M, (∀ r ∈ rows p q l, valR r ≤ M) ∧ ∃ r ∈ rows p q l, valR r = M := by
            obtain ⟨m, hm⟩ : ∃ m, (worst p q l).1 = some m := by
              cases h : (worst p q l).1 with
              | none => exact absurd h (hmeet _ (worst_mem hp hq))
              | some m => exact ⟨m, rfl⟩
            refine ⟨m, fun r hr => ?_, worst p q l, worst_mem hp hq, by unfold valR; rw [hm]; rfl⟩
            obtain ⟨a, b, ha, hb, rfl⟩ := mem_rows.mp hr
            obtain ⟨k, hk, hk2⟩ := worst_le hp hq hm ha hb
            unfold valR
            rw [hk]
            exact hk2
          have e23 := e2.trans e3
          have hval : ∀ r ∈ rows p q l, oV r.1 = .int (valR r : Nat) := fun r hr => by
            unfold valR
            cases h : r.1 with
            | none => exact absurd h (hmeet r hr)
            | some m => rfl
          have gd : ∀ i, i < (rows p q l).length → (rows p q l).getD i (none, 0, 0) ∈ rows p q l := fun i hi => by
            rw [List.getD_eq_getElem?_getD, List.getElem?_eq_getElem hi]
            exact List.getElem_mem hi
          refine q_asg (v := .int (M : Nat)) ?_ fun H4 e4 => ?_
          · have en := en_lcL (K := K) (t := tYes) (te := tOp (rIxT K) (tVar 8) (tC (.int 0))) (tl := tVar 3) (a := o) (xs := xs) (cs := (rows p q l).map cRow) (j := 8) (vs := [8]) (σ := [some (.str (txt p)), some (.str (txt q)), some (.bl l), some (.ref o), y4, some (.ref n1), none, none, none]) (H := H3) (fun i => true) (fun i => .v (.int (valR ((rows p q l).getD i (none, 0, 0)) : Nat)))
              (ev_var rfl) (sq_of (e23 _ _ ho)) (io.up e23) (by rw [List.length_map]; omega) (fun _ => rfl) (fun i x c H4 e4 hc hi => fun H5 e5 Q q => q H5 (Ex.refl H5)) (fun i x c H4 e4 hc hi _ => by
                have hi' : i < (rows p q l).length := by
                  have := (List.getElem?_eq_some_iff.mp hc).1
                  rw [List.length_map] at this
                  exact this
                rw [← hval _ (gd i hi')]
                exact ec_ev (isn _ i x c H4 rfl hc hi))
            have e0 : givenC ((rows p q l).map cRow).length (fun _ => true) (fun i => .v (.int (valR ((rows p q l).getD i (none, 0, 0)) : Nat))) = (((rows p q l).map fun r => ((valR r : Nat) : Int)).map V.int).map Cel.v := by
              unfold givenC
              rw [List.filter_eq_self.mpr (fun _ _ => rfl), List.length_map, List.map_map, List.map_map]
              apply List.ext_getElem
              · simp
              · intro i h1 h2
                simp at h1
                simp [List.getD_eq_getElem?_getD, List.getElem?_eq_getElem h1]
            rw [e0] at en
            refine ev_maxN (K := K) (el_en en) ?_ ?_
            · obtain ⟨r, hr, h⟩ := hM2
              exact List.mem_map.mpr ⟨r, hr, by rw [h]⟩
            · intro y hy
              obtain ⟨r, hr, rfl⟩ := List.mem_map.mp hy
              have := hM1 r hr
              omega
          · have e24 := e23.trans e4
            have hh := worst_head hmeet hM1 hM2
            have en := en_lcL (K := K) (t := tTest (tOp rEq (tOp (rIxT K) (tVar 8) (tC (.int 0))) (tVar 6))) (te := tVar 8) (tl := tVar 3) (a := o) (xs := xs) (cs := (rows p q l).map cRow) (j := 8) (vs := [8]) (σ := [some (.str (txt p)), some (.str (txt q)), some (.bl l), some (.ref o), y4, some (.ref n1), some (.int (M : Nat)), none, none]) (H := H4) (fun i => decide (valR ((rows p q l).getD i (none, 0, 0)) = M)) (fun i => ((rows p q l).map cRow).getD i (.v .non))
              (ev_var rfl) (sq_of (e24 _ _ ho)) (io.up e24) (by rw [List.length_map]; omega) (fun _ => rfl) (fun i x c H5 e5 hc hi => by
                have hi' : i < (rows p q l).length := by
                  have := (List.getElem?_eq_some_iff.mp hc).1
                  rw [List.length_map] at this
                  exact this
                have := isn ((wipe [some (.str (txt p)), some (.str (txt q)), some (.bl l), some (.ref o), y4, some (.ref n1), some (.int (M : Nat)), none, none] [8]).set 8 (some x)) i x c H5 rfl hc hi
                rw [hval _ (gd i hi')] at this
                refine et_is (et_test (ev_op this (ev_var rfl) (rv_eq rfl))) ?_
                exact decide_eq_decide.mpr ⟨fun h => by have := V.int.inj h; omega, fun h => by rw [h]⟩) (fun i x c H5 e5 hc hi _ => by
                rw [List.getD_eq_getElem?_getD, hc]
                exact ec_var rfl hi)
            have e0 : givenC ((rows p q l).map cRow).length (fun i => decide (valR ((rows p q l).getD i (none, 0, 0)) = M)) (fun i => ((rows p q l).map cRow).getD i (.v .non)) = ((rows p q l).filter fun r => decide (valR r = M)).map cRow := by
              unfold givenC
              rw [List.length_map]
              have er : rows p q l = (List.range (rows p q l).length).map fun i => (rows p q l).getD i (none, 0, 0) := by
                apply List.ext_getElem
                · simp
                · intro i h1 h2
                  simp [List.getD_eq_getElem?_getD, List.getElem?_eq_getElem h1]
              conv => rhs; rw [er]
              rw [List.filter_map, List.map_map]
              refine List.map_congr_left fun i hi => ?_
              have hi : i < (rows p q l).length := by
                have := (List.mem_filter.mp hi).1
                simpa using this
              show ((rows p q l).map cRow).getD i (.v .non) = cRow ((rows p q l).getD i (none, 0, 0))
              rw [List.getD_eq_getElem?_getD, List.getD_eq_getElem?_getD, List.getElem?_map, List.getElem?_eq_getElem hi]
              rfl
            rw [e0] at en
            cases hfl : (rows p q l).filter fun r => decide (valR r = M) with
            | nil => rw [hfl] at hh; cases hh
            | cons r rs =>
              rw [hfl] at hh en
              have hr : r = worst p q l := Option.some.inj hh
              refine s_retC (K := K) (ec_ixN (c := cRow r) (i := 0) en (fun _ _ => ev_c) rfl) fun u H5 e5 i5 => ?_
              rw [hr] at i5
              exact k u H5 ((e.trans e24).trans e5) i5
end
end Bm
namespace Bm
open PySem PySem.Spec PyProof.Rows L2 Evl
section
variable {P : Program} {w : World} {K : PySem.W.Frag} {mg : PySem.Str → Option Value} {base : Heap}
/-! ### law -/
abbrev s_law : Stmt := topS 26
theorem sc_law : FnScope ["_law_script", "_law_d", "_law_patterns", "_law_turn", "_law_pattern_here", "_law_other", "_law_at", "_law_rows", "_law_sure", "_law_due", "_law_handed", "_law_found", "_law_k", "_law_j"] ["_law_script"] (defScope s_law) := ⟨rfl, rfl, rfl, by decide +kernel, rfl, by decide +kernel, by decide +kernel⟩
def spLaw (K : PySem.W.Frag) : Sp := fun vs H Q _ => ∃ (a : Addr) (ns : List Int), vs = [.ref a] ∧ SqL K H a (ns.map V.int) ∧ ns.length ≤ 63 ∧ ∀ H', Q (.bl true) H'
theorem law_in {H : Hp} {a : Addr} {ns : List Int} (hl : ns.length ≤ 63) (hO : Only H) (hS : SqL K H a (ns.map V.int)) : spLaw K [.ref a] H (fun v _ => v = .bl true) fun _ _ _ => False := ⟨a, ns, rfl, hS, hl, fun _ => rfl⟩
theorem pat_up {m n : Nat} {p : List Bool} (h : Pat m p) (hm : m ≤ n) : Pat n p := ⟨h.lo, Nat.le_trans h.hi hm, h.has⟩
theorem pat_turn {m k : Nat} {p : List Bool} (h : Pat m p) : Pat m (p.drop k ++ p.take k) := by
  have hl : (p.drop k ++ p.take k).length = p.length := by simp; omega
  refine ⟨by rw [hl]; exact h.lo, by rw [hl]; exact h.hi, ?_⟩
  have := h.has
  rw [← List.take_append_drop k p] at this
  rcases List.mem_append.mp this with h | h
  · exact List.mem_append_right _ h
  · exact List.mem_append_left _ h
abbrev txV (ps : List (List Bool)) : List V := ps.map fun p => V.str (txt p)
theorem txV_all {H : Hp} (ps : List (List Bool)) : IsAll K H (txV ps) (ps.map fun p => Cel.v (.str (txt p))) := by
  have := vals_pr (K := K) (H := H) (txV ps)
  rw [List.map_map] at this
  exact this
theorem txV_ok (ps : List (List Bool)) : (ps.map fun p => Cel.v (.str (txt p))).all okC = true := by
  rw [List.all_map, List.all_eq_true]
  intro p _
  exact txt_ok p
theorem ok_law (D : Def1 K mg "law" s_law) (B : Bl mg) (c_law_dice : Cal P w K mg base 1 "_law_dice" ["_law_script", "_law_k"] (spDice K)) (c_law_off : Cal P w K mg base 1 "_law_off" ["_law_d", "_law_most"] spOff)
    (c_law_pattern : Cal P w K mg base 2 "_law_pattern" ["_law_d", "_law_most"] spPattern) (c_law_alike : Cal P w K mg base 2 "_law_alike" ["_law_found", "_law_due"] (spAlike K 1)) (c_law_ones : Cal P w K mg base 1 "_law_ones" ["_law_pattern_here"] spOnes)
    (c_law_worst : Cal P w K mg base 3 "_law_worst" ["_law_one", "_law_other", "_law_loose"] (spWorst K)) (c_law_better : Cal P w K mg base 1 "_law_better" ["_law_one", "_law_other"] (spBetter K)) (c_front : Cal P w K mg base 4 "front" ["patterns"] (spFront K)) :
    Cal P w K mg base 5 "law" ["_law_script"] (spLaw K) := by
  refine D.cal sc_law (fun _ _ _ _ _ _ us hl => match us, hl with | [_], _ => rfl) (fun vs H Q E h => ?_) (fun f cdv A outer s H vs Q E hr h => ?_)
  · obtain ⟨a, ns, rfl, _⟩ := h
    rfl
  · obtain ⟨a, ns, rfl, hS, hl, k⟩ := h
    refine ⟨_, (pss_cons (ps_set (i := 1) sc_law.nd rfl (Or.inl rfl) (pe_callC c_law_dice hr (by decide) (pa_cons (pv 0) (pa_cons pe_int pa_nil))))
 (pss_cons (ps_set (i := 2) sc_law.nd rfl (Or.inl rfl) (pe_lst pa_nil))
 (pss_cons (ps_for PassesOwn.never rfl (pi_range1 (by rfl) B.range (pa_cons (pe_callC c_law_off hr (by decide) (pa_cons (pv 1) (pa_cons pe_int pa_nil))) pa_nil)) (pg_name (i := 3) sc_law.nd rfl (Or.inl rfl))
 (pss_cons (ps_set (i := 4) sc_law.nd rfl (Or.inl rfl) (pe_callC c_law_pattern hr (by decide) (pa_cons (pv 1) (pa_cons (pe_ix ix_list (pe_lst (pa_cons pe_int (pa_cons pe_int (pa_cons pe_int pa_nil)))) (pe_callC c_law_off hr (by decide) (pa_cons (pv 1) (pa_cons pe_int pa_nil))) (fun _ _ => rfl)) pa_nil))))
 (pss_cons (ps_if (PW.pt (pw_and (pt_cmpR (op_neD hr.units) (pv 2) (pe_lst pa_nil) (nomark _)) (pw_and1 (pt_cmpR op_eq (pe_callC c_law_off hr (by decide) (pa_cons (pv 1) (pa_cons pe_int pa_nil))) pe_int (nomark _))))) (pss_cons (ps_set (i := 5) sc_law.nd rfl (Or.inl rfl) (pe_ix ix_list (pv 2) (pe_callC c_law_off hr (by decide) (pa_cons (pv 1) (pa_cons (pe_callB call_len_seq (by rfl) B.len PySem.boot_len (pa_cons (pv 2) pa_nil)) pa_nil))) (fun _ _ => rfl)))
 (pss_cons (ps_set (i := 6) sc_law.nd rfl (Or.inl rfl) (pe_callC c_law_off hr (by decide) (pa_cons (pv 1) (pa_cons (pe_callB call_len_str (by rfl) B.len PySem.boot_len (pa_cons (pv 5) pa_nil)) pa_nil))))
 (pss_one (ps_set (i := 4) sc_law.nd rfl (Or.inl rfl) (pe_op op_add_str (pe_slice sl_str (pv 5) (po_some (pv 6)) po_none) (pe_slice sl_str (pv 5) po_none (po_some (pv 6))))))))
 pss_nil)
 (pss_one (ps_expr (pe_bm PySem.F.plainAttrs_list PySem.F.slot_list_append PySem.F.type_list_append mt_append (pv 2) (pa_cons (pv 4) pa_nil)))))))
 (pss_cons (ps_set (i := 7) sc_law.nd rfl (Or.inr rfl) (pe_lst pa_nil))
 (pss_cons (ps_for PassesOwn.never rfl (pi_list (pv 2)) (pg_name (i := 4) sc_law.nd rfl (Or.inl rfl))
 (pss_one (ps_expr (pe_bm PySem.F.plainAttrs_list PySem.F.slot_list_append PySem.F.type_list_append mt_append (pv 7) (pa_cons (pe_tup (pa_cons (pe_callB call_len_seq (by rfl) B.len PySem.boot_len (pa_cons (pe_callC c_law_ones hr (by decide) (pa_cons (pv 4) pa_nil)) pa_nil)) (pa_cons (pe_callB call_len_str (by rfl) B.len PySem.boot_len (pa_cons (pv 4) pa_nil)) (pa_cons (pe_ix ix_tup (pe_callC c_law_worst hr (by decide) (pa_cons (pv 4) (pa_cons (pv 4) (pa_cons pe_bl pa_nil)))) pe_int (fun _ _ => rfl)) pa_nil)))) pa_nil)))))
 (pss_cons (ps_set (i := 8) sc_law.nd rfl (Or.inr rfl) (pe_lc (own := [("_law_k", 12)]) (g := gName 12) rfl sc_law.nd (pi_range1 (by rfl) B.range (pa_cons (pe_callB call_len_seq (by rfl) B.len PySem.boot_len (pa_cons (pv 7) pa_nil)) pa_nil)) (blkOk_by (N := ["_law_script", "_law_d", "_law_patterns", "_law_turn", "_law_pattern_here", "_law_other", "_law_at", "_law_rows", "_law_sure", "_law_due", "_law_handed", "_law_found", "_law_k", "_law_j"]) (sc := defScope s_law) (by decide +kernel)) (fun _ _ _ _ _ => (pg_name (i := 12) sc_law.nd rfl (Or.inl rfl))) (fun _ _ _ _ _ => (pts_one (pt_cmpR op_notN (pe_ix (r := rIxT K) ix_tup (pe_ix (r := rIxL K) ix_list (pv 7) (pv 12) (fun _ _ => rfl)) pe_int (fun _ _ => rfl)) pe_non (nomark _)))) (fun _ _ _ _ _ => (pv 12))))
 (pss_cons (ps_setLc (i := 9) (own := [("_law_k", 12)]) (g := gName 12) rfl sc_law.nd rfl rfl (sw_true rfl rfl rfl (by decide +kernel)) (pi_list (pv 8)) (blkOk_by (N := ["_law_script", "_law_d", "_law_patterns", "_law_turn", "_law_pattern_here", "_law_other", "_law_at", "_law_rows", "_law_sure", "_law_due", "_law_handed", "_law_found", "_law_k", "_law_j"]) (sc := defScope s_law) (by decide +kernel)) (fun _ _ _ _ _ => (pg_name (i := 12) sc_law.nd rfl (Or.inr rfl))) (fun _ _ _ _ _ => (pts_one (pt_cmpR (r := rEqD K) (op_eqD hr.units) (pe_lc (own := [("_law_j", 13)]) (g := gName 13) rfl sc_law.nd (pi_listK K rfl (pv 8)) (blkOk_by (by rfl)) (fun _ _ _ _ _ => (pg_name (i := 13) sc_law.nd rfl (Or.inl rfl))) (fun _ _ _ _ _ => (pts_one (pt_val (pe_callC c_law_better hr (by decide) (pa_cons (pe_ix (r := rIxL K) ix_list (pv 7) (pv 13) (fun _ _ => rfl)) (pa_cons (pe_ix (r := rIxL K) ix_list (pv 7) (pv 12) (fun _ _ => rfl)) pa_nil)))))) (fun _ _ _ _ _ => (pv 13))) (pe_lst pa_nil) (nomark _)))) (fun _ _ _ _ _ => (pv 12)))
 (pss_cons (ps_set (i := 10) sc_law.nd rfl (Or.inl rfl) (pe_callTy call_list_of (by rfl) B.list (by decide +kernel) (pa_cons (pv 2) pa_nil)))
 (pss_cons (ps_for PassesOwn.never rfl (pi_range1 (by rfl) B.range (pa_cons pe_int pa_nil)) (pg_name (i := 3) sc_law.nd rfl (Or.inl rfl))
 (pss_cons (ps_set (i := 11) sc_law.nd rfl (Or.inl rfl) (pe_callC c_front hr (by decide) (pa_cons (pv 10) pa_nil)))
 (pss_cons (ps_if (PW.pt (pw_or (pt_not (pt_val (pe_callC c_law_alike hr (by decide) (pa_cons (pv 11) (pa_cons (pv 9) pa_nil))))) (pw_or1 (pt_cmpR (op_neD hr.units) (pv 10) (pv 2) (nomark _))))) (pss_one (ps_ret pe_bl))
 pss_nil)
 (pss_cons (ps_for PassesOwn.never rfl (pi_list (pv 8)) (pg_name (i := 12) sc_law.nd rfl (Or.inr rfl))
 (pss_one (ps_if (PW.pt (pw_and (pt_cmpR op_notIn_seq (pv 12) (pv 11) (by rfl)) (pw_and1 (pt_cmpR (op_eqD hr.units) (pe_lc (own := [("_law_j", 13)]) (g := gName 13) rfl sc_law.nd (pi_list (pv 11)) (blkOk_by (N := ["_law_script", "_law_d", "_law_patterns", "_law_turn", "_law_pattern_here", "_law_other", "_law_at", "_law_rows", "_law_sure", "_law_due", "_law_handed", "_law_found", "_law_k", "_law_j"]) (sc := defScope s_law) (by decide +kernel)) (fun _ _ _ _ _ => (pg_name (i := 13) sc_law.nd rfl (Or.inl rfl))) (fun _ _ _ _ _ => (pts_one (pt_val (pe_callC c_law_better hr (by decide) (pa_cons (pe_ix (r := rIxL K) ix_list (pv 7) (pv 13) (fun _ _ => rfl)) (pa_cons (pe_ix (r := rIxL K) ix_list (pv 7) (pv 12) (fun _ _ => rfl)) pa_nil)))))) (fun _ _ _ _ _ => (pv 13))) (pe_lst pa_nil) (nomark _))))) (pss_one (ps_ret pe_bl))
 pss_nil)))
 (pss_one (ps_expr (pe_bm PySem.F.plainAttrs_list PySem.F.slot_list_append PySem.F.type_list_append mt_append (pv 11) (pa_cons (pe_un un_neg pe_int) pa_nil))))))))
 (pss_one (ps_ret pe_bl))))))))))), ?_⟩
    refine r_qasg (r_call (ea_cons (ev_var rfl) (ea_cons ev_c ea_nil)) fun G e1 => ⟨a, ns, 0, rfl, ex_l e1 hS, by omega, fun D ds H2 hD e2 h2 hd => ?_⟩)
    have d : DD D G H2 := ⟨hD, e2, ds, h2, hd⟩
    refine q_asgL (xs := []) (el_lst ea_nil (Nat.zero_le _)) fun PL H3 hPL e3 h3 => ?_
    have d3 := d.up e3
    have hGP : G PL = none := fresh_back d.ex hPL
    have hPD : PL ≠ D := d.ne hPL
    refine r_qforOff (m := 11) d3 (by decide) (ea_cons (ev_var rfl) (ea_cons ev_c ea_nil))
      (fun n i σ H' => ∃ (ps : List (List Bool)) (y3 y4 y5 y6 : Option V), σ = [some (.ref a), some (.ref D), some (.ref PL), y3, y4, y5, y6, none, none, none, none, none, none, none] ∧ DD D G H' ∧ H' PL = some (.lst (txV ps)) ∧ (∀ p ∈ ps, Pat 12 p) ∧ ps.length ≤ i)
      (fun n H1 _ eb d1 => ⟨[], _, _, _, _, rfl, d1, eb _ _ hPD h3, (fun p hp => nomatch hp), Nat.zero_le _⟩) (fun n i σ' H' hn hi pr => ?_) (fun n σ' H' hn pr => ?_)
    · obtain ⟨ps, y3, y4, y5, y6, rfl, dd, hP, hps, hlen⟩ := pr
      obtain ⟨dA, eA⟩ := dd.all
      have hPA : (off_ H' D) PL = some (.lst (txV ps)) := by
        unfold off_
        rw [if_neg hPD]
        exact hP
      -- the last step: append
      have fin : ∀ (EE : Ends), EE.nx = (fun σ H' => ∃ (ps : List (List Bool)) (y3 y4 y5 y6 : Option V), σ = [some (.ref a), some (.ref D), some (.ref PL), y3, y4, y5, y6, none, none, none, none, none, none, none] ∧ DD D G H' ∧ H' PL = some (.lst (txV ps)) ∧ (∀ p ∈ ps, Pat 12 p) ∧ ps.length ≤ i + 1) → ∀ (q : List Bool) (y5 y6 : Option V) (H9 : Hp), Pat 12 q → DD D (off_ H' D) H9 →
          tDrop (tBM K "list" rAppend (tVar 2) (tCons (tVar 4) tNil)) EE [some (.ref a), some (.ref D), some (.ref PL), some (.int (i : Nat)), some (.str (txt q)), y5, y6, none, none, none, none, none, none, none] H9 := fun EE hEE q y5 y6 H9 hq d9 => by
        have h9 := d9.ex _ _ hPA
        refine s_app (K := K) h9 (ev_var rfl) (v := .str (txt q)) (ev_var rfl) (by rw [List.length_map]; omega) fun H10 e10 => ?_
        rw [hEE]
        refine ⟨ps ++ [q], _, _, _, _, rfl, ((d9.weaken eA dd.no).up e10).set hGP hPD, by rw [upd_same]; simp [txV], fun p hp => ?_, by simp; omega⟩
        rcases List.mem_append.mp hp with h | h
        · exact hps p h
        · have : p = q := by simpa using h
          rw [this]
          exact hq
      refine r_qasg (r_call2 ⟨.ref D, rfl, r_menu (K := K) (m := 3) (vs := [.int 9, .int 9, .int 12]) dA (ea_cons ev_c (ea_cons ev_c (ea_cons ev_c ea_nil))) rfl (by decide) (fun H1 _ => ea_cons (ev_var rfl) (ea_cons ev_c ea_nil)) fun v H4 hv _ d4 => ?_⟩)
      obtain ⟨m, hm, rfl⟩ : ∃ m : Nat, (0 < m ∧ m ≤ 12) ∧ v = .int (m : Nat) := by
        simp at hv
        rcases hv with rfl | rfl
        · exact ⟨9, by decide, rfl⟩
        · exact ⟨12, by decide, rfl⟩
      refine pattern_of d4 hm fun p H5 hp d5 => ?_
      have hp := pat_up hp hm.2
      have h5 := d5.ex _ _ hPA
      refine r_qif (r_and (b := !(ps.map fun p => Cel.v (.str (txt p))).isEmpty) (et_test (ev_nnilL (K := K) (ev_var rfl) (sq_of h5) (txV_all ps) (txV_ok ps))) (fun hb H6 e6 => ?_) (fun hb H6 e6 => iteF (fin _ rfl p _ _ H6 hp (d5.up e6))))
      have hpos : 0 < ps.length := by
        cases ps with
        | nil => cases hb
        | cons _ _ => simp
      refine r_test (r_opc (r_off (m := 4) (d5.up e6) (by decide) (ea_cons (ev_var rfl) (ea_cons ev_c ea_nil)) fun r H7 _ _ d7 => ⟨rfl, _, rfl, ite2 (fun _ => ?_) (fun _ => fin _ rfl p _ _ H7 hp d7)⟩))
      have h7 := d7.ex _ _ hPA
      refine r_qasg (r_op (x := .ref PL) (ev_var rfl) fun H8 e8 => r_off (m := ps.length) (d7.up e8) (by omega) (ea_cons (ev_var rfl) (ea_cons (ev_is (ev_len (K := K) (ev_var rfl) (sq_of (e8 _ _ h7))) (by rw [List.length_map])) ea_nil)) fun r2 H9 hr2 _ d9 => ⟨PL, txV ps, (r2 : Nat), .str (txt ps[r2]), rfl, rfl, sq_of (d9.ex _ _ hPA), atI_nat (by rw [List.getElem?_map, List.getElem?_eq_getElem hr2]; rfl), ?_⟩)
      have hq := hps _ (List.getElem_mem hr2)
      generalize ps[r2] = q at hq
      have hq0 := hq.lo
      have hq1 := hq.hi
      refine r_qasg (r_off (m := q.length) d9 (by omega) (ea_cons (ev_var rfl) (ea_cons (ev_lenS (ev_var rfl) (by omega)) ea_nil)) fun r3 H10 hr3 _ d10 => ?_)
      refine s_asg (v := .str (txt (q.drop r3 ++ q.take r3))) (ev_addS (ev_drop (ev_var rfl) (ev_var rfl) (by omega)) (ev_take (ev_var rfl) (ev_var rfl) (by omega)) (by simp; omega)) fun H11 e11 => ?_
      exact fin _ rfl _ _ _ H11 (pat_turn hq) (d10.up e11)
    · obtain ⟨ps, y3, y4, y5, y6, rfl, dd, hP, hps, hlen⟩ := pr
      have hlen : ps.length ≤ 10 := by omega
      clear dd d d3
      -- rows
      refine q_asgL (xs := []) (el_lst ea_nil (Nat.zero_le _)) fun RL H4 hRL e4 h4 => ?_
      have hne : PL ≠ RL := ne_of_none hP hRL
      refine q_forL (K := K) (a := PL) (xs := txV ps) (ev_var rfl) (sq_of (e4 _ _ hP))
        (fun i σ H'' => (∃ y4 xs, σ = [some (.ref a), some (.ref D), some (.ref PL), y3, y4, y5, y6, some (.ref RL), none, none, none, none, none, none] ∧ H'' RL = some (.lst xs) ∧ IsAll K H'' xs (((ps.map rowOf).take i).map cR)) ∧ H'' PL = some (.lst (txV ps)))
        (fun H1 e => ⟨⟨_, [], rfl, e _ _ h4, .nil⟩, e _ _ (e4 _ _ hP)⟩) (fun i σ'' H'' _ pr => sq_of pr.2) (fun i x σ'' H'' hx pr => ?_) (fun σ'' H'' pr => ?_)
      · obtain ⟨⟨y4, xs, rfl, hR, iR⟩, hP2⟩ := pr
        have hi : i < ps.length := by
          have := (List.getElem?_eq_some_iff.mp hx).1
          rw [List.length_map] at this
          exact this
        have hx : x = .str (txt ps[i]) := by
          rw [List.getElem?_map, List.getElem?_eq_getElem hi] at hx
          exact (Option.some.inj hx).symm
        subst hx
        have hst : (ps.map rowOf).take (i + 1) = (ps.map rowOf).take i ++ [rowOf ps[i]] := by
          rw [List.take_add_one, List.getElem?_map, List.getElem?_eq_getElem hi]
          rfl
        have hq := hps _ (List.getElem_mem hi)
        generalize hqe : ps[i] = q at hq hst
        have hq0 := hq.lo
        have hq1 := hq.hi
        have hxl : xs.length < 100000 := by
          rw [pr_len iR, List.length_map, List.length_take]
          omega
        show tDrop _ _ _ _
        refine s_appC (K := K) (c := cR (rowOf q)) hR (ev_var rfl) (ec_tup (ea_cons (ev_lenN (K := K) (xs := onesV q) (el_call (ea_cons (ev_var rfl) ea_nil) fun H1 e Q k E => ⟨q, rfl, by omega, k⟩)) (ea_cons (ev_lenS (p := q) (ev_var rfl) (by omega)) (ea_cons (ev_ixC (i := 0) (K := K) (ec_call (c := cRow (worst q q false)) (ea_cons (ev_var rfl) (ea_cons (ev_var rfl) (ea_cons ev_c ea_nil))) fun H1 e Q k => ⟨q, q, false, rfl, ⟨by omega, by omega⟩, ⟨by omega, by omega⟩, k⟩) ev_c rfl) ea_nil))) (by show 3 ≤ 1000; decide)) hxl fun v H5 e5 i5 => ?_
        refine ⟨⟨_, xs ++ [v], rfl, upd_same, ?_⟩, by rw [upd_ne hne]; exact e5 _ _ hP2⟩
        rw [hst, List.map_append]
        have h5 := e5 _ _ hR
        exact pr_app ((iR.up e5).ut (ExT.upd h5)) (.cons (i5.ut (ExT.upd h5)) .nil)
      · obtain ⟨⟨y4, xs, rfl, hR, iR⟩, hP2⟩ := pr
        have iR : IsAll K H'' xs ((ps.map rowOf).map cR) := by
          have e0 : (ps.map rowOf).take (txV ps).length = ps.map rowOf := List.take_of_length_le (by simp)
          rw [e0] at iR
          exact iR
        have hsure : ∀ {i k : Nat}, (sure (ps.map rowOf))[i]? = some k → k < ps.length ∧ ((ps.map rowOf).getD k r0).2.2.isSome = true := fun h => by
          have := mem_sure.mp (List.mem_of_getElem? h)
          rw [List.length_map] at this
          exact this
        have hsl : (natsV (sure (ps.map rowOf))).length ≤ 1000 := by
          unfold natsV sure
          rw [List.length_map]
          have := List.length_filter_le (fun k => ((ps.map rowOf).getD k r0).2.2.isSome) (List.range (ps.map rowOf).length)
          have h2 : (List.range (ps.map rowOf).length).length = ps.length := by simp
          omega
        -- sure
        have hxsl : xs.length = ps.length := by rw [pr_len iR]; simp
        have el := el_lcR1 (ta := tCons (tCB (rLenS K) (tCons (tVar 7) tNil)) tNil) (t := tTest (tOp rNotN (tOp (rIxT K) (tOp (rIxL K) (tVar 7) (tVar 12)) (tC (.int 2))) (tC .non))) (te := tVar 12) (j := 12) (vs := [12]) (σ := [some (.ref a), some (.ref D), some (.ref PL), y3, y4, y5, y6, some (.ref RL), none, none, none, none, none, none]) (H := H'') (n := ((ps.length : Nat) : Int)) (fun k => ((ps.map rowOf).getD k r0).2.2.isSome) (fun k => .int (k : Nat))
          (ea_cons (ev_is (ev_len (K := K) (ev_var rfl) (sq_of hR)) (by rw [hxsl])) ea_nil) (by omega) (fun _ => rfl) (fun i H3 e3 hb => by
            refine et_is (et_test (ev_notN (ev_ixC (i := 2) (K := K) (v := oV ((ps.map rowOf).getD i r0).2.2) (ec_ixL (K := K) (ev_var rfl) (sq_of (e3 _ _ hR)) (iR.up e3) (ev_var rfl) (getD_rows ps i (by omega))) ev_c rfl))) ?_
            rw [oV_is]
            cases ((ps.map rowOf).getD i r0).2.2 <;> rfl) (fun i H3 e3 hb _ => ev_var rfl)
        have e0s : given (((ps.length : Nat) : Int)).toNat (fun k => ((ps.map rowOf).getD k r0).2.2.isSome) (fun k => .int (k : Nat)) = natsV (sure (ps.map rowOf)) := by
          have := sure_given (ps.map rowOf)
          rw [List.length_map] at this
          exact this
        rw [e0s] at el
        refine q_asgL el fun SL H6 _ e6 h6 => ?_
        -- which of some are better than the one at kk
        have inner : ∀ (js : List Nat) (l : Nat) (JL : Addr) (kk : Nat) (H3 : Hp) (y3 y9 y10 y11 : Option V), Ex H6 H3 → js.length ≤ 1000 → (∀ j ∈ js, j ∈ sure (ps.map rowOf)) → H3 JL = some (.lst (natsV js)) → ([some (.ref a), some (.ref D), some (.ref PL), y3, y4, y5, y6, some (.ref RL), some (.ref SL), y9, y10, y11, some (.int (kk : Nat)), none] : L2.St)[l]? = some (some (.ref JL)) → kk < ps.length → ((ps.map rowOf).getD kk r0).2.2.isSome = true →
            EvN K (tLc (iList K (tVar l)) (gName 13) (tB (tCall (spBetter K) [] E0 (tCons (tOp (rIxL K) (tVar 7) (tVar 13)) (tCons (tOp (rIxL K) (tVar 7) (tVar 12)) tNil)))) (tVar 13) [13]) [some (.ref a), some (.ref D), some (.ref PL), y3, y4, y5, y6, some (.ref RL), some (.ref SL), y9, y10, y11, some (.int (kk : Nat)), none] H3 ((natsV (js.filter fun j => bett ((ps.map rowOf).getD j r0) ((ps.map rowOf).getD kk r0))).map Cel.v) := fun js l JL kk H3 y3 y9 y10 y11 e3 hjs hjm hJL hl hkk hsk => by
          have en2 := en_lcL (K := K) (t := tB (tCall (spBetter K) [] E0 (tCons (tOp (rIxL K) (tVar 7) (tVar 13)) (tCons (tOp (rIxL K) (tVar 7) (tVar 12)) tNil)))) (te := tVar 13) (tl := tVar l) (a := JL) (xs := natsV js) (cs := (natsV js).map Cel.v) (j := 13) (vs := [13]) (σ := [some (.ref a), some (.ref D), some (.ref PL), y3, y4, y5, y6, some (.ref RL), some (.ref SL), y9, y10, y11, some (.int (kk : Nat)), none]) (H := H3) (fun i => bett ((ps.map rowOf).getD (js.getD i 0) r0) ((ps.map rowOf).getD kk r0)) (fun i => ((natsV js).map Cel.v).getD i (.v .non))
            (ev_var hl) (sq_of hJL) (vals_pr _) (by unfold natsV; rw [List.length_map, List.length_map]; omega) (fun _ => rfl) (fun i x c H4 e4 hc hi => by
              obtain ⟨jj, hjj, rfl⟩ := nats_at hc
              have hx : x = .int (jj : Nat) := hi
              subst hx
              have eg : js.getD i 0 = jj := by
                rw [List.getD_eq_getElem?_getD, hjj]
                rfl
              rw [eg]
              have hj := mem_sure.mp (hjm jj (List.mem_of_getElem? hjj))
              rw [List.length_map] at hj
              obtain ⟨hj1, hj2⟩ := hj
              have e14 := (e6.trans e3).trans e4
              refine et_B (ev_callC2 (K := K) (c := cR ((ps.map rowOf).getD jj r0)) (c' := cR ((ps.map rowOf).getD kk r0)) (ec_ixL (K := K) (ev_var rfl) (sq_of (e14 _ _ hR)) (iR.up e14) (ev_var rfl) (getD_rows ps jj hj1)) (fun H5 e5 => ec_ixL (K := K) (ev_var rfl) (sq_of ((e14.trans e5) _ _ hR)) (iR.up (e14.trans e5)) (ev_var rfl) (getD_rows ps kk hkk)) fun v w H5 e5 iv iw H6 e6 Q k E => ⟨v, w, _, _, rfl, iv.up e6, iw.up e6, ⟨hj2, hsk⟩, ⟨rows_lo hps _, rows_lo hps _⟩, k⟩)) (fun i x c H4 e4 hc hi _ => by
              rw [List.getD_eq_getElem?_getD, hc]
              exact ec_var rfl hi)
          rw [given_nats js (fun j => bett ((ps.map rowOf).getD j r0) ((ps.map rowOf).getD kk r0))] at en2
          exact en2
        have hslN : (sure (ps.map rowOf)).length ≤ 1000 := by
          have := hsl
          unfold natsV at this
          rw [List.length_map] at this
          exact this
        -- due
        have en3 := en_lcL (K := K) (t := tTest (tOp (rEqD K) (tLc (iList K (tVar 8)) (gName 13) (tB (tCall (spBetter K) [] E0 (tCons (tOp (rIxL K) (tVar 7) (tVar 13)) (tCons (tOp (rIxL K) (tVar 7) (tVar 12)) tNil)))) (tVar 13) [13]) (tLst tNil))) (te := tVar 12) (tl := tVar 8) (a := SL) (xs := natsV (sure (ps.map rowOf))) (cs := (natsV (sure (ps.map rowOf))).map Cel.v) (j := 12) (vs := [12]) (σ := [some (.ref a), some (.ref D), some (.ref PL), y3, y4, y5, y6, some (.ref RL), some (.ref SL), none, none, none, none, none]) (H := H6) (fun i => ((sure (ps.map rowOf)).filter fun j => bett ((ps.map rowOf).getD j r0) ((ps.map rowOf).getD ((sure (ps.map rowOf)).getD i 0) r0)).isEmpty) (fun i => ((natsV (sure (ps.map rowOf))).map Cel.v).getD i (.v .non))
          (ev_var rfl) (sq_of h6) (vals_pr _) (by rw [List.length_map]; omega) (fun _ => rfl) (fun i x c H4 e4 hc hi => by
            obtain ⟨kk, hkk, rfl⟩ := nats_at hc
            have hx : x = .int (kk : Nat) := hi
            subst hx
            have eg : (sure (ps.map rowOf)).getD i 0 = kk := by
              rw [List.getD_eq_getElem?_getD, hkk]
              rfl
            rw [eg]
            obtain ⟨hj1, hj2⟩ := hsure hkk
            refine et_is (et_test (ev_nilN (inner (sure (ps.map rowOf)) 8 SL kk H4 y3 none none none e4 hslN (fun _ h => h) (e4 _ _ h6) rfl hj1 hj2) (nats_ok _))) ?_
            show (((sure (ps.map rowOf)).filter fun j => bett ((ps.map rowOf).getD j r0) ((ps.map rowOf).getD kk r0)).map (fun k => V.int (k : Nat)) |>.map Cel.v).isEmpty = _
            rw [List.isEmpty_map, List.isEmpty_map]) (fun i x c H4 e4 hc hi _ => by
            rw [List.getD_eq_getElem?_getD, hc]
            exact ec_var rfl hi)
        rw [given_nats (sure (ps.map rowOf)) (fun kk => ((sure (ps.map rowOf)).filter fun j => bett ((ps.map rowOf).getD j r0) ((ps.map rowOf).getD kk r0)).isEmpty)] at en3
        have en3 : EvN K _ _ _ ((natsV (frontL (ps.map rowOf))).map Cel.v) := en3
        refine q_asgL (el_en en3) fun DL H7 _ e7 h7 => ?_
        have e67 := e6.trans e7
        refine q_asgN (K := K) (en_listL (K := K) (ev_var rfl) (sq_of (e67 _ _ hP2)) (txV_all ps)) fun HL hx H8 hHL e8 h8 i8 => ?_
        have hxe : hx = txV ps := by
          have := i8
          have e0 : (ps.map fun p => Cel.v (.str (txt p))) = (txV ps).map Cel.v := by rw [List.map_map]; rfl
          rw [e0] at this
          exact pr_vals this
        subst hxe
        have e68 := e67.trans e8
        have hfl : (frontL (ps.map rowOf)).length ≤ 1000 := by
          unfold frontL
          exact Nat.le_trans (List.length_filter_le _ _) hslN
        -- asked twice
        refine q_forR1 (n := 2) (ea_cons ev_c ea_nil) (by decide) (fun i σ H9 => (∃ y3 y11 y12, σ = [some (.ref a), some (.ref D), some (.ref PL), y3, y4, y5, y6, some (.ref RL), some (.ref SL), some (.ref DL), some (.ref HL), y11, y12, none]) ∧ Ex H8 H9) (fun H1 e => ⟨⟨_, _, _, rfl⟩, e⟩) (fun i σ9 H9 hi9 pr => ?_) (fun σ9 H9 pr => ?_)
        · obtain ⟨⟨y3, y11, y12, rfl⟩, e9⟩ := pr
          refine q_asgL (xs := natsV (frontL (ps.map rowOf))) (el_call (ea_cons (ev_var rfl) ea_nil) fun H1 e Q k E => ⟨HL, ps, rfl, sq_of (e _ _ (e9 _ _ h8)), hps, by omega, k⟩) fun FL H10 hFL e10 h10 => ?_
          have e810 := e9.trans e10
          have hF8 : H8 FL = none := fresh_back e9 hFL
          have neq : PyData.eqv (.list ((ps.map fun p => Cel.v (.str (txt p))).map datC)) (.list ((ps.map fun p => Cel.v (.str (txt p))).map datC)) = true := SeqAt.eqv_refl _ (lay_cs (txV_ok ps)).1
          refine q_when (b := false) (et_is (et_or (a := false) (b := false) (et_not (a := true) (et_B (ev_call (ea_cons (ev_var rfl) (ea_cons (ev_var rfl) ea_nil)) fun H1 e Q k E => ⟨_, _, rfl, al_list (K := K) (sq_of (e _ _ h10)) (vals_pr _) (sq_of (e _ _ (e810 _ _ (e8 _ _ h7)))) (vals_pr _) (by unfold natsV; rw [List.length_map, List.length_map]; omega) (fun c hc x y ix iy => by
              obtain ⟨i, hi⟩ := List.mem_iff_getElem?.mp hc
              obtain ⟨kk, _, rfl⟩ := nats_at hi
              have hx : x = .int (kk : Nat) := ix
              have hy : y = .int (kk : Nat) := iy
              rw [hx, hy]
              exact al_sc rfl), k⟩))) (fun _ => et_test (ev_op (ev_var rfl) (ev_var rfl) fun H1 e1 Q q => ⟨_, _, .lst (sq_of (e1 _ _ (e810 _ _ h8))) (dp_cs (txV_all ps) (txV_ok ps)), .lst (sq_of (e1 _ _ ((e68.trans e810) _ _ hP2))) (dp_cs (txV_all ps) (txV_ok ps)), shaped_cs (txV_ok ps), shaped_cs (txV_ok ps), by rw [neq]; exact q H1 (Ex.refl H1)⟩))) rfl) (fun hb => nomatch hb) (fun _ H11 e11 => ?_)
          have h11 := e11 _ _ h10
          have e811 := e810.trans e11
          refine q_forL (K := K) (a := SL) (xs := natsV (sure (ps.map rowOf))) (ev_var rfl) (sq_of ((e7.trans e8).trans e811 _ _ h6)) (fun j σ H12 => (∃ y12, σ = [some (.ref a), some (.ref D), some (.ref PL), some (.int (i : Nat)), y4, y5, y6, some (.ref RL), some (.ref SL), some (.ref DL), some (.ref HL), some (.ref FL), y12, none]) ∧ Ex H11 H12) (fun H1 e => ⟨⟨_, rfl⟩, e⟩) (fun j σ12 H12 _ pr => sq_of ((e7.trans e8).trans (e811.trans pr.2) _ _ h6)) (fun j x σ12 H12 hx pr => ?_) (fun σ12 H12 pr => ?_)
          · obtain ⟨⟨y12, rfl⟩, e12⟩ := pr
            obtain ⟨kk, hkk, rfl⟩ : ∃ kk, (sure (ps.map rowOf))[j]? = some kk ∧ x = V.int (kk : Nat) := by
              unfold natsV at hx
              rw [List.getElem?_map] at hx
              cases e : (sure (ps.map rowOf))[j]? with
              | none => rw [e] at hx; cases hx
              | some kk => rw [e] at hx; exact ⟨kk, rfl, (Option.some.inj hx).symm⟩
            obtain ⟨hk1, hk2⟩ := hsure hkk
            have h12 := e12 _ _ h11
            have e612 : Ex H6 H12 := ((e7.trans e8).trans e811).trans e12
            show tIfS _ _ _ _ _ _
            have hinV : inV (.int (kk : Nat)) (natsV (frontL (ps.map rowOf))) = decide (kk ∈ frontL (ps.map rowOf)) := by
              unfold inV natsV
              rw [List.any_map, List.any_eq]
              refine decide_eq_decide.mpr ⟨fun ⟨z, hz, h2⟩ => ?_, fun h2 => ⟨kk, h2, ?_⟩⟩
              · have h2 : (((z : Nat) : Int) == (kk : Nat)) = true := h2
                have : z = kk := by
                  have := eq_of_beq h2
                  omega
                rw [← this]
                exact hz
              · show (((kk : Nat) : Int) == (kk : Nat)) = true
                exact beq_self_eq_true _
            refine s_when (b := false) (et_is (et_and (a := !inV (.int (kk : Nat)) (natsV (frontL (ps.map rowOf)))) (b := ((natsV ((frontL (ps.map rowOf)).filter fun j => bett ((ps.map rowOf).getD j r0) ((ps.map rowOf).getD kk r0))).map Cel.v).isEmpty) (et_test (ev_op (ev_var rfl) (ev_var rfl) (rv_niL (K := K) (sq_of h12) rfl (by unfold natsV; rw [List.all_map, List.all_eq_true]; intro _ _; rfl)))) (fun _ => et_test (ev_nilN (inner (frontL (ps.map rowOf)) 11 FL kk H12 _ _ _ _ e612 hfl (fun j hj => (List.mem_filter.mp hj).1) h12 rfl hk1 hk2) (nats_ok _)))) ?_) (fun hb => nomatch hb) (fun _ H13 e13 => ⟨⟨_, rfl⟩, e12.trans e13⟩)
            rw [hinV]
            by_cases hm : kk ∈ frontL (ps.map rowOf)
            · rw [decide_eq_true hm]
              rfl
            · rw [decide_eq_false hm]
              obtain ⟨jj, hjj, hb⟩ := front_dom (rows_pos hps) _ kk (Nat.le_refl _) (List.mem_of_getElem? hkk) hm
              have : jj ∈ (frontL (ps.map rowOf)).filter fun j => bett ((ps.map rowOf).getD j r0) ((ps.map rowOf).getD kk r0) := List.mem_filter.mpr ⟨hjj, hb⟩
              unfold natsV
              rw [List.isEmpty_map, List.isEmpty_map]
              cases e : (frontL (ps.map rowOf)).filter fun j => bett ((ps.map rowOf).getD j r0) ((ps.map rowOf).getD kk r0) with
              | nil => rw [e] at this; cases this
              | cons _ _ => rfl
          · obtain ⟨⟨y12, rfl⟩, e12⟩ := pr
            have h12 := e12 _ _ h11
            refine s_app (K := K) h12 (ev_var rfl) (v := .int (-1)) (ev_un ev_c ru_neg) (by unfold natsV; rw [List.length_map]; omega) fun H13 e13 => ?_
            exact ⟨⟨_, _, _, rfl⟩, Ex.mut ((e811.trans e12).trans e13) hF8⟩
        · exact s_ret (v := .bl true) ev_c fun H6 _ => k H6
end
end Bm
namespace Bm
open PySem PySem.Spec PyProof.Rows L2 Evl
/-! ### the head -/
def dd (x : PySem.Str) (st : Stmt) : He.DefD := ⟨(x, none), x, x, defArgs st, defBody st, defScope st, [], []⟩
def fn : List He.DefD := [dd "fault_of" s_fault_of, dd "awake_of" s_awake_of, dd "is_met" s_is_met, dd "first_of" s_first_of, dd "worst_of" s_worst_of, dd "front" s_front, dd "is_better" s_is_better, dd "_law_dice" s_law_dice, dd "_law_off" s_law_off, dd "_law_alike" s_law_alike, dd "_law_pattern" s_law_pattern, dd "_law_ones" s_law_ones, dd "_law_first" s_law_first, dd "_law_worst" s_law_worst, dd "_law_better" s_law_better, dd "law" s_law]
def fa : List He.Fa := [.glo "fault_of", .glo "awake_of", .glo "is_met", .glo "first_of", .glo "worst_of", .glo "front", .glo "is_better", .glo "_law_dice", .glo "_law_off", .glo "_law_alike", .glo "_law_pattern", .glo "_law_ones", .glo "_law_first", .glo "_law_worst", .glo "_law_better", .glo "law", .free "len", .free "range", .free "int", .free "abs", .free "max", .free "min", .free "sorted", .free "isinstance", .free "bool", .free "str", .free "tuple", .free "list", .free "all", .free "enumerate", .free "set", .int "MOST_BEATS" 12, .str "AWAKE" "1", .str "ASLEEP" "0", .int "LATER" 1]
abbrev R : PySem.W.OpenRow := PySem.W.OpenLaw.row PySem.Challenge.rw_beaconmeet_k09_whole_none_better
abbrev hk : PySem.W.Hook := He.hookD 4 fa fn
def ob (s : PySem.W.SharedT) : He.AlD := He.obsDG 4 fa fn (HandSHeadRun.getT s)
theorem ob_eq (s : PySem.W.SharedT) : ob s = hk.obs s.abs := He.obsDG_eq (HandSHeadRun.getT_eq s)
def loose : List PySem.Str := ["MeetError", "NoPattern", "MOST_BEATS", "AWAKE", "ASLEEP", "fault_of", "awake_of", "LATER", "is_met", "first_of", "worst_of", "front", "is_better", "_law_dice", "_law_off", "_law_alike", "_law_pattern", "_law_ones", "_law_first", "_law_worst", "_law_better"]
theorem run (w : World) : HandSHeadRun.RunEq R (PySem.W.view R.prog [26]) hk ob 3000 loose w := by
  intro os
  kernel_rfl
theorem facts {P : Program} {w : World} {K : PySem.W.Frag} {h : Heap} {mg : PySem.Str → Option Value} {f : Addr} (X : K.In h) (G : h.Ns mainGlobals mg) (hfa : mg ("law" : PySem.Str) = some (.ref f)) (c : He.SaysD fa fn K) :
    ∃ fd : FuncData, (∀ (s : Shared) (v : Value), BindsTo s fd ⟨[v], []⟩ [("_law_script", v)]) ∧ ∀ base : Heap, K.In base → base.Ns mainGlobals mg → FnOk P w K mg base CX0 5 f fd ["_law_script"] (spLaw K) := by
  have D_fault_of : Def1 K mg "fault_of" s_fault_of := by
    obtain ⟨fd, F⟩ := c.def_ 0 (d := dd "fault_of" s_fault_of) rfl
    exact ⟨_, fd, F, He.glo_ok X G (c.fact 0 (f := .glo "fault_of") rfl)⟩
  have D_awake_of : Def1 K mg "awake_of" s_awake_of := by
    obtain ⟨fd, F⟩ := c.def_ 1 (d := dd "awake_of" s_awake_of) rfl
    exact ⟨_, fd, F, He.glo_ok X G (c.fact 1 (f := .glo "awake_of") rfl)⟩
  have D_is_met : Def1 K mg "is_met" s_is_met := by
    obtain ⟨fd, F⟩ := c.def_ 2 (d := dd "is_met" s_is_met) rfl
    exact ⟨_, fd, F, He.glo_ok X G (c.fact 2 (f := .glo "is_met") rfl)⟩
  have D_first_of : Def1 K mg "first_of" s_first_of := by
    obtain ⟨fd, F⟩ := c.def_ 3 (d := dd "first_of" s_first_of) rfl
    exact ⟨_, fd, F, He.glo_ok X G (c.fact 3 (f := .glo "first_of") rfl)⟩
  have D_worst_of : Def1 K mg "worst_of" s_worst_of := by
    obtain ⟨fd, F⟩ := c.def_ 4 (d := dd "worst_of" s_worst_of) rfl
    exact ⟨_, fd, F, He.glo_ok X G (c.fact 4 (f := .glo "worst_of") rfl)⟩
  have D_front : Def1 K mg "front" s_front := by
    obtain ⟨fd, F⟩ := c.def_ 5 (d := dd "front" s_front) rfl
    exact ⟨_, fd, F, He.glo_ok X G (c.fact 5 (f := .glo "front") rfl)⟩
  have D_is_better : Def1 K mg "is_better" s_is_better := by
    obtain ⟨fd, F⟩ := c.def_ 6 (d := dd "is_better" s_is_better) rfl
    exact ⟨_, fd, F, He.glo_ok X G (c.fact 6 (f := .glo "is_better") rfl)⟩
  have D_law_dice : Def1 K mg "_law_dice" s_law_dice := by
    obtain ⟨fd, F⟩ := c.def_ 7 (d := dd "_law_dice" s_law_dice) rfl
    exact ⟨_, fd, F, He.glo_ok X G (c.fact 7 (f := .glo "_law_dice") rfl)⟩
  have D_law_off : Def1 K mg "_law_off" s_law_off := by
    obtain ⟨fd, F⟩ := c.def_ 8 (d := dd "_law_off" s_law_off) rfl
    exact ⟨_, fd, F, He.glo_ok X G (c.fact 8 (f := .glo "_law_off") rfl)⟩
  have D_law_alike : Def1 K mg "_law_alike" s_law_alike := by
    obtain ⟨fd, F⟩ := c.def_ 9 (d := dd "_law_alike" s_law_alike) rfl
    exact ⟨_, fd, F, He.glo_ok X G (c.fact 9 (f := .glo "_law_alike") rfl)⟩
  have D_law_pattern : Def1 K mg "_law_pattern" s_law_pattern := by
    obtain ⟨fd, F⟩ := c.def_ 10 (d := dd "_law_pattern" s_law_pattern) rfl
    exact ⟨_, fd, F, He.glo_ok X G (c.fact 10 (f := .glo "_law_pattern") rfl)⟩
  have D_law_ones : Def1 K mg "_law_ones" s_law_ones := by
    obtain ⟨fd, F⟩ := c.def_ 11 (d := dd "_law_ones" s_law_ones) rfl
    exact ⟨_, fd, F, He.glo_ok X G (c.fact 11 (f := .glo "_law_ones") rfl)⟩
  have D_law_first : Def1 K mg "_law_first" s_law_first := by
    obtain ⟨fd, F⟩ := c.def_ 12 (d := dd "_law_first" s_law_first) rfl
    exact ⟨_, fd, F, He.glo_ok X G (c.fact 12 (f := .glo "_law_first") rfl)⟩
  have D_law_worst : Def1 K mg "_law_worst" s_law_worst := by
    obtain ⟨fd, F⟩ := c.def_ 13 (d := dd "_law_worst" s_law_worst) rfl
    exact ⟨_, fd, F, He.glo_ok X G (c.fact 13 (f := .glo "_law_worst") rfl)⟩
  have D_law_better : Def1 K mg "_law_better" s_law_better := by
    obtain ⟨fd, F⟩ := c.def_ 14 (d := dd "_law_better" s_law_better) rfl
    exact ⟨_, fd, F, He.glo_ok X G (c.fact 14 (f := .glo "_law_better") rfl)⟩
  have D_law : Def1 K mg "law" s_law := by
    obtain ⟨fd, F⟩ := c.def_ 15 (d := dd "law" s_law) rfl
    exact ⟨_, fd, F, He.glo_ok X G (c.fact 15 (f := .glo "law") rfl)⟩
  have B : Bl mg := ⟨He.free_ok X G (c.fact 16 (f := .free "len") rfl), He.free_ok X G (c.fact 17 (f := .free "range") rfl), He.free_ok X G (c.fact 18 (f := .free "int") rfl), He.free_ok X G (c.fact 19 (f := .free "abs") rfl), He.free_ok X G (c.fact 20 (f := .free "max") rfl), He.free_ok X G (c.fact 21 (f := .free "min") rfl), He.free_ok X G (c.fact 22 (f := .free "sorted") rfl), He.free_ok X G (c.fact 23 (f := .free "isinstance") rfl), He.free_ok X G (c.fact 24 (f := .free "bool") rfl), He.free_ok X G (c.fact 25 (f := .free "str") rfl), He.free_ok X G (c.fact 26 (f := .free "tuple") rfl), He.free_ok X G (c.fact 27 (f := .free "list") rfl), He.free_ok X G (c.fact 28 (f := .free "all") rfl), He.free_ok X G (c.fact 29 (f := .free "enumerate") rfl), He.free_ok X G (c.fact 30 (f := .free "set") rfl)⟩
  have g_MOST_BEATS := He.int_ok X G (c.fact 31 (f := .int "MOST_BEATS" 12) rfl)
  have g_AWAKE := He.str_ok X G (c.fact 32 (f := .str "AWAKE" "1") rfl)
  have g_ASLEEP := He.str_ok X G (c.fact 33 (f := .str "ASLEEP" "0") rfl)
  have g_LATER := He.int_ok X G (c.fact 34 (f := .int "LATER" 1) rfl)
  obtain ⟨fd, F⟩ := c.def_ 15 (d := dd "law" s_law) rfl
  have b := FunD.bindsA (ps := ["_law_script"]) F fun _ _ _ _ _ _ us hl => match us, hl with | [_], _ => rfl
  have lk : ∃ oc od osl, K.lookup (He.fAd K (dd "law" s_law).at_) = some ⟨oc, od, .func fd, osl⟩ := by
    obtain ⟨oc, od, _, _, _, _, _, _, _, osl, _, lk, _⟩ := F.ex
    exact ⟨oc, od, osl, lk⟩
  have e := hfa.symm.trans (He.glo_ok X G (c.fact 15 (f := .glo "law") rfl))
  cases e
  refine ⟨fd, fun s v => b s [v] rfl, fun base _ _ => ?_⟩
  have c_fault_of := ok_fault_of (P := P) (w := w) (base := base) D_fault_of B g_MOST_BEATS g_AWAKE g_ASLEEP
  have c_awake_of := ok_awake_of (P := P) (w := w) (base := base) D_awake_of B g_AWAKE
  have c_is_met := ok_is_met (P := P) (w := w) (base := base) D_is_met B g_AWAKE g_LATER
  have c_first_of := ok_first_of D_first_of B c_is_met
  have c_worst_of := ok_worst_of D_worst_of B c_first_of
  have c_is_better := ok_is_better (P := P) (w := w) (base := base) D_is_better
  have c_law_better := ok_law_better (P := P) (w := w) (base := base) D_law_better
  have c_front := ok_front D_front B c_fault_of c_awake_of c_worst_of c_is_better
  have c_law_dice := ok_law_dice (P := P) (w := w) (base := base) D_law_dice B
  have c_law_off := ok_law_off (P := P) (w := w) (base := base) D_law_off B
  have c_law_pattern := ok_law_pattern D_law_pattern B c_law_off
  have c_law_ones := ok_law_ones (P := P) (w := w) (base := base) D_law_ones B
  have c_law_first := ok_law_first D_law_first B c_law_ones
  have c_law_worst := ok_law_worst D_law_worst B c_law_first
  have c_law_alike := ok_law_alike (P := P) (w := w) (base := base) D_law_alike B 1
  have c_law := ok_law D_law B c_law_dice c_law_off c_law_pattern c_law_alike c_law_ones c_law_worst c_law_better c_front
  exact c_law.at_ hfa lk
end Bm
open PySem PySem.W PySem.Calls PyProof.Rows
set_option maxRecDepth 100000 in
set_option maxHeartbeats 0 in
theorem PySem.Challenge.cw_beaconmeet_k09_whole_none_better_holds : PySem.Challenge.rw_beaconmeet_k09_whole_none_better.Holds := by
  w_on; o_law
  refine HandSHeadRun.head_any (r := OpenLaw.row PySem.Challenge.rw_beaconmeet_k09_whole_none_better) (q := view (OpenLaw.row PySem.Challenge.rw_beaconmeet_k09_whole_none_better).prog [26]) (H := Bm.hk) (ob := Bm.ob) (M := 3000) (loose := Bm.loose) (d := HandSHeadRun.topDef (OpenLaw.row PySem.Challenge.rw_beaconmeet_k09_whole_none_better).prog 26) (kwd := []) Bm.ob_eq
    (by kernel_rfl) (fun s => by kernel_rfl) Bm.run (by kernel_rfl) (by kernel_rfl) (by kernel_rfl) (by rfl) (by first | assumption | decide +kernel) (by decide +kernel) ⟨rfl, rfl, rfl, rfl, rfl, by decide +kernel⟩ ?hw ?hc
  case hw => w_witness2
  case hc =>
    refine L2.walk_ofE (l := PySem.Challenge.rw_beaconmeet_k09_whole_none_better) (n := 63) (k := 5) (x := "_law_script") (CX := L2.CX0) rfl (by decide) (by kernel_rfl) ⟨rfl, by decide, by decide⟩ ?F (fun _ _ _ _ z => z)
    intro w mg fa h Y G hmg0
    obtain ⟨K, KX, c⟩ := Y
    have hmg : mg ("law" : PySem.Str) = some (.ref fa) := by
      have e : (HandSHeadRun.topDef (OpenLaw.row PySem.Challenge.rw_beaconmeet_k09_whole_none_better).prog 26).name = ("law" : PySem.Str) := by kernel_rfl
      rw [← e]
      exact hmg0
    obtain ⟨fd, hb, hF⟩ := Bm.facts (P := (PySem.Challenge.rw_beaconmeet_k09_whole_none_better).prog) (w := w) KX G hmg c
    exact ⟨K, fd, Bm.spLaw K, KX, hb, fun H a ns hl hO hS => Bm.law_in hl hO hS, hF⟩
